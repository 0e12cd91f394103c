import PyProof.Rows.All
import HandS.TupMul
import PyProof.ListMulRoad
import PyProof.FactsAll.tuple_2
import Wide.All
import OpenK.AllK
import Wide.FinOn
import HandS.ForMost
import HandS.Walk
import HandS.TupAny
import HandS.Style
import HandS.Deep
import HandS.Conv
import HandS.IsInst
import HandS.Wide
import HandS.SetFor
import HandS.More
import HandS.Flow
import HandS.Exc
import HandS.HeadHook1
import HandS.Defaults
import KE.KStateDown
import Lean
import HandS.Head0
import HandS.Head1
import HandS.Head2
import HandS.HeadEnd
import HandS.HeadHook2
import PySem.Challenge.RW_promisewright_k47_whole_chances_and_wors
set_option Elab.async false
set_option linter.all false
set_option maxRecDepth 100001
set_option maxHeartbeats 0
/-! SmT: tuple * int for any small int. -/
namespace Sm
open PySem PySem.Spec PyProof.Rows L2
theorem tuple_mul1 (l : Addr) (items : Array Value) (n : Nat) (dd : Option Addr) (sl : Array (Option Value)) (x : Int) (u : Tok) (c0 : (decide (x < -(2 ^ 63)) || decide (x ≥ 2 ^ 63)) = false) (c1 : (items.isEmpty || x == 1) = true) :
    Meets (Builtin.«tuple.__mul__» ⟨[.ref l, .int x u], []⟩) (fun _ R s => s.heap.get? l = some { cls := .type "tuple", dict := dd, data := .seq items n, slots := sl } ∧ R (.ok (.ret (Value.ref l))) s) :=
  .of_wp fun prog w A R s h => by
    obtain ⟨hp, g, d, tk, os⟩ := s
    obtain ⟨hl, h⟩ := h
    have f1 := AutoSeq1.idx_int
    wp_walk using wpAny_loadPart' hl
    repeat (first
      | (refine wpAny_ite_false (decide_eq_false (by rw [c0]; exact Bool.false_ne_true)) ?_; wp_walk using wpAny_loadPart' hl)
      | (refine wpAny_ite_true (decide_eq_true (by rw [c1])) ?_; wp_walk using wpAny_loadPart' hl))
    exact ⟨_, rfl, h⟩
theorem tuple_mul0 (l : Addr) (items : Array Value) (n : Nat) (dd : Option Addr) (sl : Array (Option Value)) (x : Int) (u : Tok) (c0 : (decide (x < -(2 ^ 63)) || decide (x ≥ 2 ^ 63)) = false) (c1 : (items.isEmpty || x == 1) = false) (c2 : (decide (x ≤ 0) || items.isEmpty) = true) :
    Meets (Builtin.«tuple.__mul__» ⟨[.ref l, .int x u], []⟩) (fun _ R s => s.heap.get? l = some { cls := .type "tuple", dict := dd, data := .seq items n, slots := sl } ∧
      R (.ok (.ret (Value.ref s.heap.objs.size))) { s with heap := s.heap.push { cls := Value.type "tuple", data := Data.seq #[] }, toks := s.toks }) :=
  .of_wp fun prog w A R s h => by
    obtain ⟨hp, g, d, tk, os⟩ := s
    obtain ⟨hl, h⟩ := h
    have f1 := AutoSeq1.idx_int
    wp_walk using wpAny_loadPart' hl
    repeat (first
      | (refine wpAny_ite_false (decide_eq_false (by rw [c0]; exact Bool.false_ne_true)) ?_; wp_walk using wpAny_loadPart' hl)
      | (refine wpAny_ite_false (decide_eq_false (by rw [c1]; exact Bool.false_ne_true)) ?_; wp_walk using wpAny_loadPart' hl)
      | (refine wpAny_ite_true (decide_eq_true (by rw [c2])) ?_; wp_walk using wpAny_loadPart' hl))
    exact ⟨_, rfl, h⟩
def rRepA (K : PySem.W.Frag) : R2 := fun x y H Q => ∃ l k xs, x = .ref l ∧ y = .int k ∧ SqT K H l xs ∧ -1000 ≤ k ∧ k ≤ 1000 ∧ xs.length ≤ 1000 ∧
  (xs = [] ∨ k = 1 → Q (.ref l) H) ∧ (xs ≠ [] → k ≠ 1 → ∀ p, H p = none → Q (.ref p) (upd H p (.tup (List.replicate k.toNat xs).flatten)))
section
variable {X : Cx}
theorem op_repA : OpR X (binaryOp .Mult) (rRepA X.K) := by
  intro pins s σ H x y v u Q I rx ry h
  obtain ⟨l, k, xs, rfl, rfl, hT, k0, k1, hz, q1, q2⟩ := h
  by_cases hk : 2 ≤ k ∧ xs ≠ []
  · exact op_repT pins s σ H _ _ v u Q I rx ry ⟨l, k, xs, rfl, rfl, hT, hk.2, hk.1, k1, hz, q2 hk.2 (by omega)⟩
  cases rx
  obtain ⟨t, rfl⟩ := ry
  obtain ⟨its, r, ⟨⟨cls, dd, data, sl⟩, ho, hc, n, hd⟩, hs⟩ := I.tuple hT
  simp only at hc hd
  subst hc hd
  have hle : its.length = xs.length := r.length.symm
  have c0 : (decide (k < -(2 ^ 63)) || decide (k ≥ 2 ^ 63)) = false := by
    rw [decide_eq_false (by omega), decide_eq_false (by omega)] <;> rfl
  have em : its.toArray.isEmpty = xs.isEmpty := by
    cases its with
    | nil => cases xs with
      | nil => rfl
      | cons a b => simp at hle
    | cons a b => cases xs with
      | nil => simp at hle
      | cons a b => rfl
  by_cases h1 : xs = [] ∨ k = 1
  · have c1 : (its.toArray.isEmpty || k == 1) = true := by
      rw [em]
      rcases h1 with e | e
      · subst e; rfl
      · subst e; exact Bool.or_true _
    refine wpAny_binaryOp_repeat_ref (T := "tuple") (U := "int") (by decide) ⟨_, ho, rfl⟩ (fun s' => typeIs_int s' k t) noFill_tuple_mul F.fills_int_mul F.slot_int_rmul repeat_tuple F.slot_int_index.lookup
      (call_meets F.slot_int_rmul (typeIs_int s k t) F.entry_int_rmul (F.args_int_rmul_2 _ _) (int_rmul_tuple k t l its.toArray n dd sl)
        ⟨ho, rfl, ⟨_, ho, rfl⟩, call_meets F.slot_tuple_mul ⟨_, ho, rfl⟩ F.entry_tuple_mul (F.args_tuple_mul_2 _ _) (tuple_mul1 l its.toArray n dd sl k t c0 c1) ⟨ho, ?_⟩⟩)
    exact ⟨.ref l, H, I, rfl, q1 h1⟩
  · have hx : xs ≠ [] := fun e => h1 (.inl e)
    have hk1 : k ≠ 1 := fun e => h1 (.inr e)
    have hk0 : k ≤ 0 := by
      by_cases z : 2 ≤ k
      · exact absurd ⟨z, hx⟩ hk
      · omega
    have ex : xs.isEmpty = false := by
      cases xs with
      | nil => exact absurd rfl hx
      | cons a b => rfl
    have c1 : (its.toArray.isEmpty || k == 1) = false := by
      rw [em, ex, Bool.false_or]
      exact beq_eq_false_iff_ne.mpr hk1
    have c2 : (decide (k ≤ 0) || its.toArray.isEmpty) = true := by rw [decide_eq_true hk0]; rfl
    have e0 : (List.replicate k.toNat xs).flatten = [] := by rw [show k.toNat = 0 by omega]; rfl
    rw [e0] at q2
    refine wpAny_binaryOp_repeat_ref (T := "tuple") (U := "int") (by decide) ⟨_, ho, rfl⟩ (fun s' => typeIs_int s' k t) noFill_tuple_mul F.fills_int_mul F.slot_int_rmul repeat_tuple F.slot_int_index.lookup
      (call_meets F.slot_int_rmul (typeIs_int s k t) F.entry_int_rmul (F.args_int_rmul_2 _ _) (int_rmul_tuple k t l its.toArray n dd sl)
        ⟨ho, rfl, ⟨_, ho, rfl⟩, call_meets F.slot_tuple_mul ⟨_, ho, rfl⟩ F.entry_tuple_mul (F.args_tuple_mul_2 _ _) (tuple_mul0 l its.toArray n dd sl k t c0 c1 c2) ⟨ho, ?_⟩⟩)
    refine ⟨.ref s.heap.objs.size, _, I.laid (t' := s.toks) (o := .tup []) (fun b ob q => Heap.get?_push_of_some _ q) (Nat.le_refl _) ?_, rfl, q2 hx hk1 _ (I.hok.fresh (Nat.le_refl _))⟩
    exact ⟨Nat.zero_le _, [], .nil, IsTup.new _ _⟩
end
end Sm

/-! SmA: plain data, the small heap, what stands for what, results, the soundness judgements. -/
namespace Sm
open PySem PySem.Spec PyProof.Rows L2

/-- plain data: tuples and frozen lists by value, lists by their number in the small heap -/
inductive D where
  | non
  | bl (b : Bool)
  | int (i : Int)
  | str (x : Str)
  | tup (ds : List D)
  | fls (ds : List D)
  | lst (n : Nat)
  deriving Inhabited

mutual
def D.beq : D → D → Bool
  | .non, .non => true
  | .bl a, .bl b => a == b
  | .int a, .int b => a == b
  | .str a, .str b => decide (a = b)
  | .tup a, .tup b => D.beqL a b
  | .fls a, .fls b => D.beqL a b
  | .lst a, .lst b => a == b
  | _, _ => false
def D.beqL : List D → List D → Bool
  | [], [] => true
  | a :: r, b :: s => D.beq a b && D.beqL r s
  | _, _ => false
end
mutual
theorem D.beq_iff : ∀ a b : D, D.beq a b = true ↔ a = b
  | .non, b => by cases b <;> simp [D.beq]
  | .bl x, b => by cases b <;> simp [D.beq]
  | .int x, b => by cases b <;> simp [D.beq]
  | .str x, b => by cases b <;> simp [D.beq]
  | .tup x, b => by
    cases b with
    | tup y => rw [D.beq, D.beqL_iff x y]; simp
    | _ => simp [D.beq]
  | .fls x, b => by
    cases b with
    | fls y => rw [D.beq, D.beqL_iff x y]; simp
    | _ => simp [D.beq]
  | .lst x, b => by cases b <;> simp [D.beq]
theorem D.beqL_iff : ∀ a b : List D, D.beqL a b = true ↔ a = b
  | [], b => by cases b <;> simp [D.beqL]
  | x :: r, b => by
    cases b with
    | nil => simp [D.beqL]
    | cons y s => rw [D.beqL, Bool.and_eq_true, D.beq_iff x y, D.beqL_iff r s]; simp
end
instance : DecidableEq D := fun a b => decidable_of_iff _ (D.beq_iff a b)

/-- an entry of the small heap -/
inductive HE where
  | lst (ds : List D)
  deriving DecidableEq
abbrev MH := List HE
abbrev Sg := List (Option D)

/-! ### what stands for what -/
/-- a list that is never written: frozen, or of the module -/
def SqF (K : PySem.W.Frag) (H : Hp) (a : Addr) (xs : List V) : Prop :=
  (∃ o, H a = some (.frz o (.lst xs))) ∨
    ∃ (o : Obj) (its : Array Value) (n : Nat), K.lookup a = some o ∧ o.cls = .type "list" ∧ o.dict = none ∧ o.data = .seq its n ∧ its.size ≤ sizeLine ∧ Vals xs its.toList
theorem SqF.seq {K : PySem.W.Frag} {H : Hp} {a : Addr} {xs : List V} (h : SqF K H a xs) : SqL K H a xs := by
  rcases h with h | h
  · exact .inl (.inr h)
  · exact .inr h

mutual
inductive Rep (K : PySem.W.Frag) (ρ : List Addr) (H : Hp) : V → D → Prop
  | non : Rep K ρ H .non .non
  | bl (b : Bool) : Rep K ρ H (.bl b) (.bl b)
  | int (i : Int) : Rep K ρ H (.int i) (.int i)
  | str (x : Str) : Rep K ρ H (.str x) (.str x)
  | tup {a : Addr} {xs : List V} {ds : List D} : SqT K H a xs → RepL K ρ H xs ds → Rep K ρ H (.ref a) (.tup ds)
  | fls {a : Addr} {xs : List V} {ds : List D} : SqF K H a xs → RepL K ρ H xs ds → Rep K ρ H (.ref a) (.fls ds)
  | lst {a : Addr} {n : Nat} : ρ[n]? = some a → Rep K ρ H (.ref a) (.lst n)
inductive RepL (K : PySem.W.Frag) (ρ : List Addr) (H : Hp) : List V → List D → Prop
  | nil : RepL K ρ H [] []
  | cons {v : V} {vs : List V} {d : D} {ds : List D} : Rep K ρ H v d → RepL K ρ H vs ds → RepL K ρ H (v :: vs) (d :: ds)
end

def EntOk (K : PySem.W.Frag) (ρ : List Addr) (H : Hp) (a : Addr) : HE → Prop
  | .lst ds => ∃ xs, H a = some (.lst xs) ∧ RepL K ρ H xs ds
/-- the small heap h stands in H, its lists at ρ -/
structure Rel (K : PySem.W.Frag) (ρ : List Addr) (h : MH) (H : Hp) : Prop where
  len : ρ.length = h.length
  nd : ρ.Nodup
  ent : ∀ (n : Nat) (e : HE) (a : Addr), h[n]? = some e → ρ[n]? = some a → EntOk K ρ H a e
/-- later: what is not in ρ is as it was -/
structure Ext (ρ : List Addr) (H : Hp) (ρ' : List Addr) (H' : Hp) : Prop where
  pre : ∃ r, ρ' = ρ ++ r
  new : ∀ a ∈ ρ', a ∉ ρ → H a = none
  oth : ∀ a o, a ∉ ρ → H a = some o → H' a = some o

section
variable {K : PySem.W.Frag} {ρ ρ' ρ'' : List Addr} {h h' : MH} {H H' H'' : Hp} {a : Addr} {v : V} {vs : List V} {d : D} {ds : List D} {n : Nat} {o : HO} {xs : List V}
theorem Ext.refl : Ext ρ H ρ H := ⟨⟨[], (List.append_nil _).symm⟩, fun a h1 h2 => absurd h1 h2, fun _ _ _ e => e⟩
theorem Ext.sub (x : Ext ρ H ρ' H') (m : a ∈ ρ) : a ∈ ρ' := by
  obtain ⟨r, e⟩ := x.pre
  rw [e]; exact List.mem_append_left _ m
theorem Ext.get (x : Ext ρ H ρ' H') (e : ρ[n]? = some a) : ρ'[n]? = some a := by
  obtain ⟨r, e'⟩ := x.pre
  rw [e', List.getElem?_append_left (List.getElem?_eq_some_iff.mp e).1]; exact e
theorem Ext.trans (x : Ext ρ H ρ' H') (y : Ext ρ' H' ρ'' H'') : Ext ρ H ρ'' H'' := by
  refine ⟨?_, fun a h1 h2 => ?_, fun a o h1 h2 => ?_⟩
  · obtain ⟨r, e⟩ := x.pre
    obtain ⟨r', e'⟩ := y.pre
    exact ⟨r ++ r', by rw [e', e, List.append_assoc]⟩
  · by_cases m : a ∈ ρ'
    · exact x.new a m h2
    · have z := y.new a h1 m
      cases q : H a with
      | none => rfl
      | some o => rw [x.oth a o h2 q] at z; cases z
  · refine y.oth a o (fun m => ?_) (x.oth a o h1 h2)
    rw [x.new a m h1] at h2; cases h2
theorem Rel.lstAt (R : Rel K ρ h H) (m : a ∈ ρ) : ∃ xs, H a = some (.lst xs) := by
  obtain ⟨n, hn, e⟩ := List.getElem_of_mem m
  have hn' : n < h.length := by rw [← R.len]; exact hn
  have q := R.ent n h[n] a (List.getElem?_eq_getElem hn') (by rw [List.getElem?_eq_getElem hn, e])
  cases he : h[n] with
  | lst ds => rw [he] at q; obtain ⟨xs, q, _⟩ := q; exact ⟨xs, q⟩
theorem Rel.notIn (R : Rel K ρ h H) (e : H a = some o) (ho : ∀ xs, o ≠ .lst xs) : a ∉ ρ := fun m => by
  obtain ⟨xs, q⟩ := R.lstAt m
  rw [e] at q; cases q; exact ho xs rfl
theorem Rel.freshNot (R : Rel K ρ h H) (e : H a = none) : a ∉ ρ := fun m => by
  obtain ⟨xs, q⟩ := R.lstAt m
  rw [e] at q; cases q
theorem Ext.sqt (R : Rel K ρ h H) (x : Ext ρ H ρ' H') (q : SqT K H a xs) : SqT K H' a xs := by
  rcases q with (q | ⟨o, q⟩) | q
  · exact .inl (.inl (x.oth _ _ (R.notIn q fun _ z => by cases z) q))
  · exact .inl (.inr ⟨o, x.oth _ _ (R.notIn q fun _ z => by cases z) q⟩)
  · exact .inr q
theorem Ext.sqf (R : Rel K ρ h H) (x : Ext ρ H ρ' H') (q : SqF K H a xs) : SqF K H' a xs := by
  rcases q with ⟨o, q⟩ | q
  · exact .inl ⟨o, x.oth _ _ (R.notIn q fun _ z => by cases z) q⟩
  · exact .inr q
mutual
theorem Rep.mono' (ht : ∀ a xs, SqT K H a xs → SqT K H' a xs) (hf : ∀ a xs, SqF K H a xs → SqF K H' a xs) (hp : ∀ (n : Nat) (a : Addr), ρ[n]? = some a → ρ'[n]? = some a) : ∀ {d : D} {v : V}, Rep K ρ H v d → Rep K ρ' H' v d
  | .non, _, .non => .non
  | .bl _, _, .bl b => .bl b
  | .int _, _, .int b => .int b
  | .str _, _, .str b => .str b
  | .tup _, _, .tup q r => .tup (ht _ _ q) (RepL.mono' ht hf hp r)
  | .fls _, _, .fls q r => .fls (hf _ _ q) (RepL.mono' ht hf hp r)
  | .lst _, _, .lst q => .lst (hp _ _ q)
theorem RepL.mono' (ht : ∀ a xs, SqT K H a xs → SqT K H' a xs) (hf : ∀ a xs, SqF K H a xs → SqF K H' a xs) (hp : ∀ (n : Nat) (a : Addr), ρ[n]? = some a → ρ'[n]? = some a) : ∀ {ds : List D} {vs : List V}, RepL K ρ H vs ds → RepL K ρ' H' vs ds
  | [], _, .nil => .nil
  | _ :: _, _, .cons a r => .cons (Rep.mono' ht hf hp a) (RepL.mono' ht hf hp r)
end
theorem Rep.mono (R : Rel K ρ h H) (x : Ext ρ H ρ' H') {d : D} {v : V} (r : Rep K ρ H v d) : Rep K ρ' H' v d := r.mono' (fun _ _ q => x.sqt R q) (fun _ _ q => x.sqf R q) fun _ _ e => x.get e
theorem RepL.mono (R : Rel K ρ h H) (x : Ext ρ H ρ' H') {ds : List D} {vs : List V} (r : RepL K ρ H vs ds) : RepL K ρ' H' vs ds := r.mono' (fun _ _ q => x.sqt R q) (fun _ _ q => x.sqf R q) fun _ _ e => x.get e
/-- a list changes: tuples stay -/
theorem sqt_lst (e : H a = some (.lst xs)) {b : Addr} {ys zs : List V} (q : SqT K H b ys) : SqT K (L2.upd H a (.lst zs)) b ys := by
  rcases q with (q | ⟨o, q⟩) | q
  · exact .inl (.inl (by rw [upd_ne (ne_of q e (by intro z; cases z))]; exact q))
  · exact .inl (.inr ⟨o, by rw [upd_ne (ne_of q e (by intro z; cases z))]; exact q⟩)
  · exact .inr q
theorem sqf_lst (e : H a = some (.lst xs)) {b : Addr} {ys zs : List V} (q : SqF K H b ys) : SqF K (L2.upd H a (.lst zs)) b ys := by
  rcases q with ⟨o, q⟩ | q
  · exact .inl ⟨o, by rw [upd_ne (ne_of q e (by intro z; cases z))]; exact q⟩
  · exact .inr q
/-- a list outside the small heap changes -/
theorem Rel.outer (R : Rel K ρ h H) (m : a ∉ ρ) (e : H a = some (.lst xs)) {zs : List V} : Rel K ρ h (L2.upd H a (.lst zs)) :=
  ⟨R.len, R.nd, fun n en b h1 h2 => by
    have q := R.ent n en b h1 h2
    cases en with
    | lst ds =>
      obtain ⟨ys, q1, q2⟩ := q
      have hb : b ≠ a := fun z => m (z ▸ List.mem_of_getElem? h2)
      exact ⟨ys, by rw [upd_ne hb]; exact q1, q2.mono' (fun _ _ q => sqt_lst e q) (fun _ _ q => sqf_lst e q) fun _ _ z => z⟩⟩
/-- a list outside is taken in -/
theorem Rel.adopt (R : Rel K ρ h H) (m : a ∉ ρ) (e : H a = some (.lst xs)) (r : RepL K ρ H xs ds) : Rel K (ρ ++ [a]) (h ++ [.lst ds]) H := by
  have grow : ∀ {ys : List V} {es : List D}, RepL K ρ H ys es → RepL K (ρ ++ [a]) H ys es := fun q => q.mono' (fun _ _ q => q) (fun _ _ q => q) fun n b z => by rw [List.getElem?_append_left (List.getElem?_eq_some_iff.mp z).1]; exact z
  refine ⟨by rw [List.length_append, List.length_append, R.len]; rfl, ?_, fun n en b h1 h2 => ?_⟩
  · rw [List.nodup_append]
    exact ⟨R.nd, by simp, fun p mp q mq => by rw [List.mem_singleton.mp mq]; intro z; exact m (z ▸ mp)⟩
  · by_cases hn : n < h.length
    · have hn' : n < ρ.length := by rw [R.len]; exact hn
      rw [List.getElem?_append_left hn] at h1
      rw [List.getElem?_append_left hn'] at h2
      have q := R.ent n en b h1 h2
      cases en with
      | lst es =>
        obtain ⟨ys, q1, q2⟩ := q
        exact ⟨ys, q1, grow q2⟩
    · have hl : n = h.length := by
        have := (List.getElem?_eq_some_iff.mp h1).1
        rw [List.length_append] at this
        simp at this; omega
      subst hl
      rw [List.getElem?_append_right (Nat.le_refl _), Nat.sub_self] at h1
      rw [← R.len, List.getElem?_append_right (Nat.le_refl _), Nat.sub_self] at h2
      simp at h1 h2
      subst h1 h2
      exact ⟨xs, e, grow r⟩
theorem Ext.stillOut (x : Ext ρ H ρ' H') (m : a ∉ ρ) (e : H a = some o) : a ∉ ρ' := fun m' => by
  rw [x.new a m' m] at e; cases e
theorem RepL.length : ∀ {ds : List D} {vs : List V}, RepL K ρ H vs ds → vs.length = ds.length
  | [], _, .nil => rfl
  | _ :: _, _, .cons _ r => by rw [List.length_cons, List.length_cons, RepL.length r]
theorem RepL.get : ∀ {ds : List D} {vs : List V} {i : Nat} {d : D}, RepL K ρ H vs ds → ds[i]? = some d → ∃ v, vs[i]? = some v ∧ Rep K ρ H v d
  | [], _, _, _, .nil, e => by simp at e
  | _ :: _, _, 0, _, .cons r _, e => by simp at e; subst e; exact ⟨_, rfl, r⟩
  | _ :: _, _, i + 1, _, .cons _ r, e => by
    obtain ⟨v, h1, h2⟩ := RepL.get (i := i) r (by simpa using e)
    exact ⟨v, by simpa using h1, h2⟩
theorem RepL.set {x : V} {e : D} (r : Rep K ρ H x e) : ∀ {ds : List D} {vs : List V} (i : Nat), RepL K ρ H vs ds → RepL K ρ H (vs.set i x) (ds.set i e)
  | [], _, _, .nil => .nil
  | _ :: _, _, 0, .cons _ t => .cons r t
  | _ :: _, _, i + 1, .cons q t => .cons q (RepL.set r i t)
theorem RepL.append : ∀ {ds es : List D} {vs us : List V}, RepL K ρ H vs ds → RepL K ρ H us es → RepL K ρ H (vs ++ us) (ds ++ es)
  | [], _, _, _, .nil, s => s
  | _ :: _, _, _, _, .cons r t, s => .cons r (RepL.append t s)
theorem RepL.take : ∀ {ds : List D} {vs : List V} (n : Nat), RepL K ρ H vs ds → RepL K ρ H (vs.take n) (ds.take n)
  | _, _, 0, _ => .nil
  | [], _, _ + 1, .nil => .nil
  | _ :: _, _, n + 1, .cons r t => .cons r (RepL.take n t)
theorem RepL.drop : ∀ {ds : List D} {vs : List V} (n : Nat), RepL K ρ H vs ds → RepL K ρ H (vs.drop n) (ds.drop n)
  | _, _, 0, r => r
  | [], _, _ + 1, .nil => .nil
  | _ :: _, _, n + 1, .cons _ t => RepL.drop n t
theorem RepL.reverse : ∀ {ds : List D} {vs : List V}, RepL K ρ H vs ds → RepL K ρ H vs.reverse ds.reverse
  | [], _, .nil => .nil
  | _ :: _, _, .cons r t => by rw [List.reverse_cons, List.reverse_cons]; exact RepL.append (RepL.reverse t) (.cons r .nil)
theorem RepL.dropLast {ds : List D} {vs : List V} (r : RepL K ρ H vs ds) : RepL K ρ H vs.dropLast ds.dropLast := by
  rw [List.dropLast_eq_take, List.dropLast_eq_take, r.length]; exact r.take _
theorem RepL.eraseIdx {ds : List D} {vs : List V} (r : RepL K ρ H vs ds) (i : Nat) : RepL K ρ H (vs.eraseIdx i) (ds.eraseIdx i) := by
  rw [List.eraseIdx_eq_take_drop_succ, List.eraseIdx_eq_take_drop_succ]; exact (r.take _).append (r.drop _)
/-- the first has the list's own entry -/
theorem Rel.at (R : Rel K ρ h H) (e : h[n]? = some (.lst ds)) (q : ρ[n]? = some a) : ∃ xs, H a = some (.lst xs) ∧ RepL K ρ H xs ds := R.ent n _ a e q
theorem Rel.addr (R : Rel K ρ h H) {e : HE} (q : h[n]? = some e) : ∃ a, ρ[n]? = some a := by
  have hn : n < ρ.length := by rw [R.len]; exact (List.getElem?_eq_some_iff.mp q).1
  exact ⟨ρ[n], List.getElem?_eq_getElem hn⟩
/-- a tuple is made -/
theorem Ext.upd (R : Rel K ρ h H) (hp : H a = none) : Ext ρ H ρ (upd H a o) :=
  ⟨⟨[], (List.append_nil _).symm⟩, fun b h1 h2 => absurd h1 h2, fun b u _ e => by rw [upd_ne (ne_of_none e hp)]; exact e⟩
theorem Rel.ext (R : Rel K ρ h H) (x : Ext ρ H ρ H') (same : ∀ a ∈ ρ, H' a = H a) : Rel K ρ h H' :=
  ⟨R.len, R.nd, fun n e a h1 h2 => by
    have q := R.ent n e a h1 h2
    cases e with
    | lst ds =>
      obtain ⟨xs, q1, q2⟩ := q
      exact ⟨xs, by rw [same a (List.mem_of_getElem? h2)]; exact q1, q2.mono R x⟩⟩
theorem Rel.upd (R : Rel K ρ h H) (hp : H a = none) : Rel K ρ h (L2.upd H a o) :=
  R.ext (Ext.upd R hp) fun b m => upd_ne fun e => R.freshNot hp (e ▸ m)
/-- a list is made -/
theorem Ext.push (R : Rel K ρ h H) (hp : H a = none) : Ext ρ H (ρ ++ [a]) (L2.upd H a o) :=
  ⟨⟨[a], rfl⟩, fun b h1 h2 => by
    rcases List.mem_append.mp h1 with m | m
    · exact absurd m h2
    · rw [List.mem_singleton.mp m]; exact hp, fun b u _ e => by rw [upd_ne (ne_of_none e hp)]; exact e⟩
theorem Rel.push (R : Rel K ρ h H) (hp : H a = none) (r : RepL K ρ H xs ds) : Rel K (ρ ++ [a]) (h ++ [.lst ds]) (L2.upd H a (.lst xs)) := by
  have x : Ext ρ H (ρ ++ [a]) (L2.upd H a (.lst xs)) := Ext.push R hp
  refine ⟨by rw [List.length_append, List.length_append, R.len]; rfl, ?_, fun n e b h1 h2 => ?_⟩
  · rw [List.nodup_append]
    exact ⟨R.nd, by simp, fun p m q m' => by
      rw [List.mem_singleton.mp m']; intro z; exact R.freshNot hp (z ▸ m)⟩
  · by_cases hn : n < h.length
    · have hn' : n < ρ.length := by rw [R.len]; exact hn
      rw [List.getElem?_append_left hn] at h1
      rw [List.getElem?_append_left hn'] at h2
      have q := R.ent n e b h1 h2
      cases e with
      | lst es =>
        obtain ⟨ys, q1, q2⟩ := q
        exact ⟨ys, by rw [upd_ne (ne_of_none q1 hp)]; exact q1, q2.mono R x⟩
    · have hl : n = h.length := by
        have := (List.getElem?_eq_some_iff.mp h1).1
        rw [List.length_append] at this
        simp at this; omega
      subst hl
      rw [List.getElem?_append_right (Nat.le_refl _), Nat.sub_self] at h1
      rw [← R.len, List.getElem?_append_right (Nat.le_refl _), Nat.sub_self] at h2
      simp at h1 h2
      subst h1 h2
      exact ⟨xs, upd_same, r.mono R x⟩
/-- a list is changed -/
theorem Ext.write (R : Rel K ρ h H) (q : ρ[n]? = some a) : Ext ρ H ρ (L2.upd H a o) :=
  ⟨⟨[], (List.append_nil _).symm⟩, fun b h1 h2 => absurd h1 h2, fun b u m e => by
    have hb : b ≠ a := fun z => m (by rw [z]; exact List.mem_of_getElem? q)
    rw [upd_ne hb]; exact e⟩
theorem Rel.write (R : Rel K ρ h H) (q : ρ[n]? = some a) (r : RepL K ρ H xs ds) : Rel K ρ (h.set n (.lst ds)) (L2.upd H a (.lst xs)) := by
  have x : Ext ρ H ρ (L2.upd H a (.lst xs)) := Ext.write R q
  refine ⟨by rw [List.length_set]; exact R.len, R.nd, fun m e b h1 h2 => ?_⟩
  by_cases hm : m = n
  · subst hm
    have hb : b = a := by rw [q] at h2; exact (Option.some.inj h2).symm
    subst hb
    rw [List.getElem?_set_self (by have := (List.getElem?_eq_some_iff.mp h1).1; rw [List.length_set] at this; exact this)] at h1
    cases h1
    exact ⟨xs, upd_same, r.mono R x⟩
  · rw [List.getElem?_set_ne (Ne.symm hm)] at h1
    have hb : b ≠ a := fun z => by
      subst z
      have l1 := (List.getElem?_eq_some_iff.mp h2)
      have l2 := (List.getElem?_eq_some_iff.mp q)
      obtain ⟨p1, e1⟩ := l1
      obtain ⟨p2, e2⟩ := l2
      exact hm ((List.getElem_inj R.nd).mp (e1.trans e2.symm))
    have q' := R.ent m e b h1 h2
    cases e with
    | lst es =>
      obtain ⟨ys, q1, q2⟩ := q'
      exact ⟨ys, by rw [upd_ne hb]; exact q1, q2.mono R x⟩
end
end Sm

/-! SmB: results, the soundness judgements, expressions. -/
namespace Sm
open PySem PySem.Spec PyProof.Rows L2

inductive Res (α : Type) where
  | ok (a : α) (h : MH)
  | exc (c : Str) (fs : List (Str × D)) (h : MH)
  | err
def Res.bind {α β : Type} (r : Res α) (k : α → MH → Res β) : Res β := match r with
  | .ok a h => k a h
  | .exc c fs h => .exc c fs h
  | .err => .err
@[simp] theorem bind_ok {α β : Type} (a : α) (h : MH) (k : α → MH → Res β) : (Res.ok a h).bind k = k a h := rfl
@[simp] theorem bind_exc {α β : Type} (c : Str) (fs : List (Str × D)) (h : MH) (k : α → MH → Res β) : (Res.exc c fs h : Res α).bind k = .exc c fs h := rfl
@[simp] theorem bind_err {α β : Type} (k : α → MH → Res β) : (Res.err : Res α).bind k = .err := rfl
theorem bind_assoc {α β γ : Type} (r : Res α) (k : α → MH → Res β) (l : β → MH → Res γ) : (r.bind k).bind l = r.bind fun a h => (k a h).bind l := by cases r <;> rfl

/-- an exception that lies there -/
def ExcRep (K : PySem.W.Frag) (ρ : List Addr) (H : Hp) (cls : Value) (dx : Option Addr) (c : Str) (fs : List (Str × D)) : Prop :=
  cls = .ref (He.ga K c) ∧ ∃ d ys, dx = some d ∧ H d = some (.xd ys) ∧ ∀ f v, fs.lookup f = some v → ∃ y, ys.lookup f = some y ∧ Rep K ρ H y v

def Sat {α : Type} (K : PySem.W.Frag) (w : XK) (ρ : List Addr) (H : Hp) (r : Res α) (P : α → MH → List Addr → Hp → Prop) : Prop := match r with
  | .ok a h' => ∀ ρ' H', Rel K ρ' h' H' → Ext ρ H ρ' H' → P a h' ρ' H'
  | .exc c fs h' => ∀ ρ' H' cls dx, Rel K ρ' h' H' → Ext ρ H ρ' H' → ExcRep K ρ' H' cls dx c fs → w cls dx H'
  | .err => False
section
variable {α β : Type} {K : PySem.W.Frag} {w : XK} {ρ ρ' : List Addr} {H H' : Hp} {h : MH}
theorem Sat.later {r : Res α} {P : α → MH → List Addr → Hp → Prop} (s : Sat K w ρ H r P) (x : Ext ρ H ρ' H') : Sat K w ρ' H' r P := by
  cases r with
  | ok a h' => exact fun ρ2 H2 R y => s ρ2 H2 R (x.trans y)
  | exc c fs h' => exact fun ρ2 H2 cls dx R y => s ρ2 H2 cls dx R (x.trans y)
  | err => exact s
theorem Sat.bind {r : Res α} {k : α → MH → Res β} {P : β → MH → List Addr → Hp → Prop} (s : Sat K w ρ H (r.bind k) P) : Sat K w ρ H r fun a h1 ρ1 H1 => Sat K w ρ1 H1 (k a h1) P := by
  cases r with
  | ok a h' => exact fun ρ1 H1 R x => Sat.later s x
  | exc c fs h' => exact s
  | err => exact s
theorem Sat.imp {r : Res α} {P P' : α → MH → List Addr → Hp → Prop} (s : Sat K w ρ H r P) (f : ∀ a h' ρ' H', Rel K ρ' h' H' → Ext ρ H ρ' H' → P a h' ρ' H' → P' a h' ρ' H') : Sat K w ρ H r P' := by
  cases r with
  | ok a h' => exact fun ρ1 H1 R x => f a h' ρ1 H1 R x (s ρ1 H1 R x)
  | exc c fs h' => exact s
  | err => exact s
theorem Sat.now {a : α} {P : α → MH → List Addr → Hp → Prop} (s : Sat K w ρ H (.ok a h) P) (R : Rel K ρ h H) : P a h ρ H := s ρ H R Ext.refl
end

structure SRel (K : PySem.W.Frag) (ρ : List Addr) (H : Hp) (σ : L2.St) (σd : Sg) : Prop where
  len : σ.length = σd.length
  at_ : ∀ (i : Nat) (d : D), σd[i]? = some (some d) → ∃ v, σ[i]? = some (some v) ∧ Rep K ρ H v d
section
variable {K : PySem.W.Frag} {ρ ρ' : List Addr} {H H' : Hp} {h : MH} {σ : L2.St} {σd : Sg} {i : Nat} {v : V} {d : D}
theorem SRel.mono (s : SRel K ρ H σ σd) (R : Rel K ρ h H) (x : Ext ρ H ρ' H') : SRel K ρ' H' σ σd :=
  ⟨s.len, fun i d e => let ⟨v, h1, h2⟩ := s.at_ i d e; ⟨v, h1, h2.mono R x⟩⟩
theorem SRel.set (s : SRel K ρ H σ σd) (r : Rep K ρ H v d) : SRel K ρ H (σ.set i (some v)) (σd.set i (some d)) := by
  refine ⟨by rw [List.length_set, List.length_set, s.len], fun j e q => ?_⟩
  by_cases hj : i = j
  · subst hj
    have hi : i < σd.length := by
      have := (List.getElem?_eq_some_iff.mp q).1
      rw [List.length_set] at this; exact this
    rw [List.getElem?_set_self hi] at q
    cases q
    exact ⟨v, List.getElem?_set_self (by rw [s.len]; exact hi), r⟩
  · rw [List.getElem?_set_ne hj] at q
    rw [List.getElem?_set_ne hj]
    exact s.at_ j e q
end

/-! ### the weakest readings -/
def tE (X : Cx) (e : Expr) : TE := fun σ H Q => ∀ pins s, Inv X pins σ H s → wpAny (model X.prog X.w) X.A (eval e X.env) (EP X pins σ Q) X.xe s
def tT (X : Cx) (e : Expr) : TT := fun σ H Q => ∀ pins s, Inv X pins σ H s → wpAny (model X.prog X.w) X.A (isTrue e X.env (eval e X.env)) (TP X pins σ Q) X.xe s
def tW (X : Cx) (e : Expr) : TT := fun σ H Q => ∀ (whole : Sem Value) pins s, Inv X pins σ H s → wpAny (model X.prog X.w) X.A (isTrue e X.env whole) (TP X pins σ Q) X.xe s
def tA (X : Cx) (es : List Expr) : TA := fun σ H Q => ∀ (pos : Pos) pins s, Inv X pins σ H s → wpAny (model X.prog X.w) X.A (spliced (backTo pos (starEach es X.env))) (AP X pins σ Q) X.xe s
section
variable {X : Cx} {e : Expr} {es : List Expr} {σ : L2.St} {H : Hp}
theorem pE : PE X e (tE X e) := ⟨fun pins s _ _ _ I q => q pins s I⟩
theorem pT : PT X e (tT X e) := ⟨fun pins s _ _ _ I q => q pins s I⟩
theorem pW : PW X e (tW X e) := ⟨fun whole pins s _ _ _ I q => q whole pins s I⟩
theorem pA : PA X es (tA X es) := ⟨fun pos pins s _ _ _ I q => q pos pins s I⟩
theorem _root_.L2.PE.to {t : TE} {Q : VK} (p : PE X e t) (q : t σ H Q) : tE X e σ H Q := fun pins s I => p.run pins s σ H Q I q
theorem _root_.L2.PT.to {t : TT} {Q : Bool → Hp → Prop} (p : PT X e t) (q : t σ H Q) : tT X e σ H Q := fun pins s I => p.run pins s σ H Q I q
theorem _root_.L2.PW.to {t : TT} {Q : Bool → Hp → Prop} (p : PW X e t) (q : t σ H Q) : tW X e σ H Q := fun whole pins s I => p.run whole pins s σ H Q I q
theorem _root_.L2.PA.to {t : TA} {Q : List V → Hp → Prop} (p : PA X es t) (q : t σ H Q) : tA X es σ H Q := fun pos pins s I => p.run pos pins s σ H Q I q
theorem tE_imp {Q Q' : VK} (q : tE X e σ H Q) (f : ∀ v H', Q v H' → Q' v H') : tE X e σ H Q' := fun pins s I =>
  thn (q pins s I) fun u s' ⟨v, H', I', r, z⟩ => ⟨v, H', I', r, f v H' z⟩
end

abbrev FE := Sg → MH → Res D
abbrev FT := Sg → MH → Res Bool
abbrev FA := Sg → MH → Res (List D)

def OkE (X : Cx) (w : XK) (e : Expr) (f : FE) : Prop := ∀ (σd : Sg) (h : MH) (ρ : List Addr) (σ : L2.St) (H : Hp) (Q : VK), SRel X.K ρ H σ σd → Rel X.K ρ h H →
  Sat X.K w ρ H (f σd h) (fun d _ ρ' H' => ∀ v, Rep X.K ρ' H' v d → Q v H') → tE X e σ H Q
def OkT (X : Cx) (w : XK) (e : Expr) (f : FT) : Prop := ∀ (σd : Sg) (h : MH) (ρ : List Addr) (σ : L2.St) (H : Hp) (Q : Bool → Hp → Prop), SRel X.K ρ H σ σd → Rel X.K ρ h H →
  Sat X.K w ρ H (f σd h) (fun b _ _ H' => Q b H') → tT X e σ H Q
def OkW (X : Cx) (w : XK) (e : Expr) (f : FT) : Prop := ∀ (σd : Sg) (h : MH) (ρ : List Addr) (σ : L2.St) (H : Hp) (Q : Bool → Hp → Prop), SRel X.K ρ H σ σd → Rel X.K ρ h H →
  Sat X.K w ρ H (f σd h) (fun b _ _ H' => Q b H') → tW X e σ H Q
def OkA (X : Cx) (w : XK) (es : List Expr) (f : FA) : Prop := ∀ (σd : Sg) (h : MH) (ρ : List Addr) (σ : L2.St) (H : Hp) (Q : List V → Hp → Prop), SRel X.K ρ H σ σd → Rel X.K ρ h H →
  Sat X.K w ρ H (f σd h) (fun ds _ ρ' H' => ∀ vs, RepL X.K ρ' H' vs ds → Q vs H') → tA X es σ H Q

section
variable {X : Cx} {w : XK} {a b c e : Expr} {es rest : List Expr} {fa fb fc f : FE} {ga gb : FT} {fl fl' : FA} {pos : Pos}

/-! ### names and constants -/
def fVar (i : Nat) : FE := fun σ h => match σ[i]? with
  | some (some d) => .ok d h
  | _ => .err
theorem r_var (i : Nat) {x : Str} (hN : X.N[i]? = some x := by rfl) (hv : Vis X.env.scope x := by first | exact Or.inl rfl | exact Or.inr (Or.inl rfl) | exact Or.inr (Or.inr rfl)) (hd : (x == ("__debug__" : Str)) = false := by decide)
    (hcd : (x == ("__classdict__" : Str)) = false := by decide) : OkE X w (.Name x pos) (fVar i) := by
  intro σd h ρ σ H Q s R q
  refine (pe_var hN hv hd hcd).to ?_
  unfold fVar at q
  split at q
  · rename_i d e
    obtain ⟨v, h1, h2⟩ := s.at_ i d e
    exact ⟨v, h1, q.now R v h2⟩
  · exact q.elim
def fC (d : D) : FE := fun _ h => .ok d h
theorem r_int {i : Int} {j : Nat} : OkE X w (.Constant (.int i) j pos) (fC (.int i)) := fun _ _ _ _ _ _ s R q => pe_int.to (q.now R _ (.int i))
theorem r_bl {i : Bool} {j : Nat} : OkE X w (.Constant (.bool i) j pos) (fC (.bl i)) := fun _ _ _ _ _ _ s R q => pe_bl.to (q.now R _ (.bl i))
theorem r_non {j : Nat} : OkE X w (.Constant .none j pos) (fC .non) := fun _ _ _ _ _ _ s R q => pe_non.to (q.now R _ .non)
theorem r_str {x : Str} {j : Nat} : OkE X w (.Constant (.str x) j pos) (fC (.str x)) := fun _ _ _ _ _ _ s R q => pe_str.to (q.now R _ (.str x))
/-- a constant of the module -/
theorem r_glob {x : Str} {v : V} {u : Value} {d : D} (hm : X.mg x = some u) (r : RelV v u) (hr : ∀ ρ H, Rep X.K ρ H v d) (hg : Gl X x := by rfl) (hd : (x == ("__debug__" : Str)) = false := by decide) : OkE X w (.Name x pos) (fC d) :=
  fun _ _ ρ _ H _ s R q => (pe_glob hg hm r hd).to (q.now R _ (hr ρ H))

/-! ### argument lists, displays -/
def fNil : FA := fun _ h => .ok [] h
def fCons (fa : FE) (fl : FA) : FA := fun σ h => (fa σ h).bind fun d h1 => (fl σ h1).bind fun ds h2 => .ok (d :: ds) h2
theorem r_nil : OkA X w [] fNil := fun _ _ _ _ _ _ s R q => pa_nil.to (q.now R _ .nil)
theorem r_cons (ha : OkE X w e fa) (hl : OkA X w es fl) (hs : starEach (e :: es) X.env = (false, eval e X.env) :: starEach es X.env := by rfl) : OkA X w (e :: es) (fCons fa fl) := by
  intro σd h ρ σ H Q s R q
  refine (pa_cons pE pA hs).to (ha _ _ _ _ _ _ s R (q.bind.imp ?_))
  intro d h1 ρ1 H1 R1 x1 q1 v rv
  refine hl _ _ _ _ _ _ (s.mono R x1) R1 (q1.bind.imp ?_)
  intro ds h2 ρ2 H2 R2 x2 q2 vs rvs
  exact q2.now R2 _ (.cons (rv.mono R1 x2) rvs)
def fTup (fl : FA) : FE := fun σ h => (fl σ h).bind fun ds h1 => if ds.length ≤ 1000000 then .ok (.tup ds) h1 else .err
theorem le_line {n : Nat} (h : n ≤ 1000000) : n ≤ sizeLine := Nat.le_trans h (by decide)
theorem r_tup {k : Nat} (hl : OkA X w es fl) : OkE X w (.Tuple es k pos) (fTup fl) := by
  intro σd h ρ σ H Q s R q
  refine (pe_tup pA).to (hl _ _ _ _ _ _ s R (q.bind.imp ?_))
  intro ds h1 ρ1 H1 R1 x1 q1 vs rvs
  split at q1
  · rename_i hn
    refine ⟨by rw [rvs.length]; exact le_line hn, fun p hp => ?_⟩
    exact q1 _ _ (R1.upd hp) (Ext.upd R1 hp) _ (.tup (.inl (.inl upd_same)) (rvs.mono R1 (Ext.upd R1 hp)))
  · exact q1.elim
def allocD (ds : List D) (h : MH) : Res D := if ds.length ≤ 1000000 then .ok (.lst h.length) (h ++ [.lst ds]) else .err
theorem alloc_ok {K : PySem.W.Frag} {ρ : List Addr} {H : Hp} {h : MH} {ds : List D} {vs : List V} {Q : VK} (R : Rel K ρ h H) (r : RepL K ρ H vs ds)
    (q : Sat K w ρ H (allocD ds h) (fun d _ ρ' H' => ∀ v, Rep K ρ' H' v d → Q v H')) : vs.length ≤ sizeLine ∧ ∀ p, H p = none → Q (.ref p) (upd H p (.lst vs)) := by
  unfold allocD at q
  split at q
  · rename_i hn
    refine ⟨by rw [r.length]; exact le_line hn, fun p hp => ?_⟩
    exact q _ _ (R.push hp r) (Ext.push R hp) _ (.lst (by rw [← R.len, List.getElem?_append_right (Nat.le_refl _), Nat.sub_self]; rfl))
  · exact q.elim
def fLst (fl : FA) : FE := fun σ h => (fl σ h).bind fun ds h1 => allocD ds h1
theorem r_lst (hl : OkA X w es fl) : OkE X w (.List es pos) (fLst fl) := by
  intro σd h ρ σ H Q s R q
  refine (pe_lst pA).to (hl _ _ _ _ _ _ s R (q.bind.imp ?_))
  intro ds h1 ρ1 H1 R1 x1 q1 vs rvs
  exact alloc_ok R1 rvs q1

/-! ### operators -/
def cOp (X : Cx) (f : Value → Value → Sem Value) : R2 := fun x y H Q => ∀ pins s σ v u, Inv X pins σ H s → RelV x v → RelV y u → wpAny (model X.prog X.w) X.A (f v u) (EP X pins σ Q) X.xe s
theorem oC {f : Value → Value → Sem Value} : OpR X f (cOp X f) := fun pins s σ H x y v u Q I rx ry q => q pins s σ v u I rx ry
theorem _root_.L2.OpR.to {f : Value → Value → Sem Value} {r : R2} {x y : V} {H : Hp} {Q : VK} (o : OpR X f r) (q : r x y H Q) : cOp X f x y H Q := fun pins s σ v u I rx ry => o pins s σ H x y v u Q I rx ry q
abbrev DOp := D → D → MH → Res D
def OkOp (X : Cx) (w : XK) (f : Value → Value → Sem Value) (op : DOp) : Prop := ∀ (ρ : List Addr) (h : MH) (H : Hp) (x y : V) (dx dy : D) (Q : VK), Rel X.K ρ h H → Rep X.K ρ H x dx → Rep X.K ρ H y dy →
  Sat X.K w ρ H (op dx dy h) (fun d _ ρ' H' => ∀ v, Rep X.K ρ' H' v d → Q v H') → cOp X f x y H Q
def fOp (op : DOp) (fa fb : FE) : FE := fun σ h => (fa σ h).bind fun x h1 => (fb σ h1).bind fun y h2 => op x y h2
theorem r_op {op : Operator} {o : DOp} (ho : OkOp X w (binaryOp op) o) (ha : OkE X w a fa) (hb : OkE X w b fb) : OkE X w (.BinOp a op b pos) (fOp o fa fb) := by
  intro σd h ρ σ H Q s R q
  refine (pe_op oC pE pE).to (ha _ _ _ _ _ _ s R (q.bind.imp ?_))
  intro d h1 ρ1 H1 R1 x1 q1 v rv
  refine hb _ _ _ _ _ _ (s.mono R x1) R1 (q1.bind.imp ?_)
  intro e h2 ρ2 H2 R2 x2 q2 u ru
  exact ho _ _ _ _ _ _ _ _ R2 (rv.mono R1 x2) ru q2
theorem r_cmp {op : CmpOp} {o : DOp} (ho : OkOp X w (compareOp op) o) (ha : OkE X w a fa) (hb : OkE X w b fb) (hm : behindInMarks op b = false := by first | exact nomark _ | rfl) : OkE X w (.Compare a [op] [b] pos) (fOp o fa fb) := by
  intro σd h ρ σ H Q s R q
  refine (pe_cmpR oC pE pE hm).to (ha _ _ _ _ _ _ s R (q.bind.imp ?_))
  intro d h1 ρ1 H1 R1 x1 q1 v rv
  refine hb _ _ _ _ _ _ (s.mono R x1) R1 (q1.bind.imp ?_)
  intro e h2 ρ2 H2 R2 x2 q2 u ru
  exact ho _ _ _ _ _ _ _ _ R2 (rv.mono R1 x2) ru q2
/-- a comparison as a test -/
def toB : D → MH → Res Bool
  | .bl b, h => .ok b h
  | _, _ => .err
def fTst (f : FE) : FT := fun σ h => (f σ h).bind toB
theorem toB_ok {K : PySem.W.Frag} {ρ : List Addr} {H : Hp} {h : MH} {d : D} {v : V} {P : Bool → Prop} (R : Rel K ρ h H) (r : Rep K ρ H v d) (q : Sat K w ρ H (toB d h) (fun b _ _ _ => P b)) : ∃ k, v = .bl k ∧ P k := by
  cases d with
  | bl b => cases r; exact ⟨b, rfl, q.now R⟩
  | _ => exact q.elim
theorem r_tcmp {op : CmpOp} {o : DOp} (ho : OkOp X w (compareOp op) o) (ha : OkE X w a fa) (hb : OkE X w b fb) (hm : behindInMarks op b = false := by first | exact nomark _ | rfl) : OkT X w (.Compare a [op] [b] pos) (fTst (fOp o fa fb)) := by
  intro σd h ρ σ H Q s R q
  unfold fTst fOp at q
  rw [bind_assoc] at q
  refine (pt_cmpR oC pE pE hm).to (ha _ _ _ _ _ _ s R (q.bind.imp ?_))
  intro d h1 ρ1 H1 R1 x1 q1 v rv
  rw [bind_assoc] at q1
  refine hb _ _ _ _ _ _ (s.mono R x1) R1 (q1.bind.imp ?_)
  intro e h2 ρ2 H2 R2 x2 q2 u ru
  refine ho _ _ _ _ _ _ _ _ R2 (rv.mono R1 x2) ru (q2.bind.imp ?_)
  intro z h3 ρ3 H3 R3 x3 q3 y ry
  unfold toB at q3
  split at q3
  · cases ry; exact ⟨_, rfl, q3.now R3⟩
  · exact q3.elim
end
end Sm

/-! SmC: operators by values. -/
namespace Sm
open PySem PySem.Spec PyProof.Rows L2

/-! ### what is in a list, a tuple -/
def dL (h : MH) : D → Option (List D)
  | .lst n => match h[n]? with
    | some (.lst ds) => some ds
    | none => none
  | .fls ds => some ds
  | _ => none
def dT : D → Option (List D)
  | .tup ds => some ds
  | _ => none
/-- either -/
def dI (h : MH) (d : D) : Option (List D) := match dT d with
  | some ds => some ds
  | none => dL h d
section
variable {K : PySem.W.Frag} {ρ ρ' : List Addr} {H H' : Hp} {h : MH} {d : D} {v : V} {ds : List D} {xs : List V}
theorem lst_of (R : Rel K ρ h H) (r : Rep K ρ H v d) (e : dL h d = some ds) : ∃ a xs, v = .ref a ∧ SqL K H a xs ∧ RepL K ρ H xs ds := by
  cases d with
  | lst n =>
    cases r with
    | lst q =>
      simp only [dL] at e
      split at e
      · rename_i ds' e'
        cases e
        obtain ⟨xs, h1, h2⟩ := R.at e' q
        exact ⟨_, xs, rfl, .inl (.inl h1), h2⟩
      · cases e
  | fls es =>
    cases r with
    | fls q1 q2 =>
      cases e
      exact ⟨_, _, rfl, q1.seq, q2⟩
  | _ => cases e
theorem tup_of (r : Rep K ρ H v d) (e : dT d = some ds) : ∃ a xs, v = .ref a ∧ SqT K H a xs ∧ RepL K ρ H xs ds := by
  cases d with
  | tup es =>
    cases r with
    | tup q1 q2 =>
      cases e
      exact ⟨_, _, rfl, q1, q2⟩
  | _ => cases e
/-- a list of the small heap is tracked -/
theorem mut_of (R : Rel K ρ h H) {n : Nat} (r : Rep K ρ H v (.lst n)) (e : h[n]? = some (.lst ds)) : ∃ a xs, v = .ref a ∧ ρ[n]? = some a ∧ H a = some (.lst xs) ∧ RepL K ρ H xs ds := by
  cases r with
  | lst q =>
    obtain ⟨xs, h1, h2⟩ := R.at e q
    exact ⟨_, xs, rfl, q, h1, h2⟩
theorem int_of {i : Int} (r : Rep K ρ H v (.int i)) : v = .int i := by cases r; rfl
theorem bl_of {i : Bool} (r : Rep K ρ H v (.bl i)) : v = .bl i := by cases r; rfl
theorem repL_at (r : RepL K ρ H xs ds) {i : Int} {d : D} (e : atI ds i = some d) : ∃ v, atI xs i = some v ∧ Rep K ρ H v d := by
  unfold atI at e ⊢
  rw [r.length]
  cases q : ixN ds.length i with
  | none => rw [q] at e; cases e
  | some j =>
    rw [q] at e
    exact r.get (show ds[j]? = some d from e)
end

/-! ### data by value, for == -/
def pyL (f : D → Option PyData) : List D → Option (List PyData)
  | [] => some []
  | d :: ds => match f d, pyL f ds with
    | some p, some ps => some (p :: ps)
    | _, _ => none
def py : Nat → MH → D → Option PyData
  | 0, _, _ => none
  | _ + 1, _, .non => some .none
  | _ + 1, _, .bl b => some (.bool b)
  | _ + 1, _, .int i => some (.int i)
  | _ + 1, _, .str x => some (.str x)
  | n + 1, h, .tup ds => (pyL (py n h) ds).map .tuple
  | n + 1, h, .fls ds => (pyL (py n h) ds).map .list
  | n + 1, h, .lst k => match h[k]? with
    | some (.lst ds) => (pyL (py n h) ds).map .list
    | none => none
section
variable {K : PySem.W.Frag} {ρ : List Addr} {H : Hp} {h : MH}
theorem dpL_of {f : D → Option PyData} (hf : ∀ (d : D) (p : PyData) (v : V), f d = some p → Rep K ρ H v d → Dp K H v p) : ∀ (ds : List D) (ps : List PyData) (vs : List V), pyL f ds = some ps → RepL K ρ H vs ds → DpAll K H vs ps
  | [], _, _, e, r => by simp [pyL] at e; subst e; cases r; exact .nil
  | d :: ds, _, _, e, r => by
    simp only [pyL] at e
    split at e
    · rename_i p ps e1 e2
      cases e
      cases r with
      | cons q1 q2 => exact .cons (hf d p _ e1 q1) (dpL_of hf ds ps _ e2 q2)
    · cases e
theorem dp_of (R : Rel K ρ h H) : ∀ (n : Nat) (d : D) (p : PyData) (v : V), py n h d = some p → Rep K ρ H v d → Dp K H v p := by
  intro n
  induction n with
  | zero => intro d p v e; simp [py] at e
  | succ n ih =>
    intro d p v e r
    cases d with
    | non => simp [py] at e; subst e; cases r; exact .non
    | bl b => simp [py] at e; subst e; cases r; exact .bl _
    | int i => simp [py] at e; subst e; cases r; exact .int _
    | str x => simp [py] at e; subst e; cases r; exact .str _
    | tup ds =>
      simp only [py, Option.map_eq_some_iff] at e
      obtain ⟨ps, e1, rfl⟩ := e
      cases r with
      | tup q1 q2 => exact .tup q1 (dpL_of ih ds ps _ e1 q2)
    | fls ds =>
      simp only [py, Option.map_eq_some_iff] at e
      obtain ⟨ps, e1, rfl⟩ := e
      cases r with
      | fls q1 q2 => exact .lst q1.seq (dpL_of ih ds ps _ e1 q2)
    | lst k =>
      simp only [py] at e
      split at e
      · rename_i ds e0
        simp only [Option.map_eq_some_iff] at e
        obtain ⟨ps, e1, rfl⟩ := e
        obtain ⟨a, xs, rfl, _, hx, rx⟩ := mut_of R r e0
        exact .lst (.inl (.inl hx)) (dpL_of ih ds ps _ e1 rx)
      · cases e
end

/-! ### + - * // % -/
def dAdd : DOp
  | .int i, .int j, h => .ok (.int (i + j)) h
  | .lst n, .lst m, h => match h[n]?, h[m]? with
    | some (.lst a), some (.lst b) => allocD (a ++ b) h
    | _, _ => .err
  | .tup a, .tup b, h => if a.length + b.length ≤ 1000000 then .ok (.tup (a ++ b)) h else .err
  | .str a, .str b, h => if a.length + b.length ≤ 1000000 then .ok (.str (a ++ b)) h else .err
  | _, _, _ => .err
def dSub : DOp
  | .int i, .int j, h => .ok (.int (i - j)) h
  | _, _, _ => .err
def mulOk (i j : Int) : Bool := decide (i.natAbs.log2 + j.natAbs.log2 < 1000000) || (decide (-(2 ^ 64) < i ∧ i < 2 ^ 64) || decide (-(2 ^ 64) < j ∧ j < 2 ^ 64))
def divOk (j : Int) : Bool := decide (j ≠ 0) && decide (j.natAbs.log2 < 9000)
def dMul : DOp
  | .int i, .int j, h => if mulOk i j = true then .ok (.int (i * j)) h else .err
  | .lst n, .int k, h => match h[n]? with
    | some (.lst a) => if k ≤ 1000 ∧ -1000 ≤ k ∧ a.length ≤ 1000 then allocD (List.replicate k.toNat a).flatten h else .err
    | none => .err
  | .tup a, .int k, h => if k ≤ 1000 ∧ -1000 ≤ k ∧ a.length ≤ 1000 then .ok (.tup (List.replicate k.toNat a).flatten) h else .err
  | _, _, _ => .err
def dFdiv : DOp
  | .int i, .int j, h => if divOk j = true then .ok (.int (i.fdiv j)) h else .err
  | _, _, _ => .err
def dMod : DOp
  | .int i, .int j, h => if j ≠ 0 then .ok (.int (i.fmod j)) h else .err
  | _, _, _ => .err
section
variable {X : Cx} {w : XK}
theorem op_fdivG : OpR X (binaryOp .FloorDiv) (rI (fun _ j => j ≠ 0 ∧ j.natAbs.log2 < 9000) fun i j => .int (i.fdiv j)) := opI fun i j _ _ _ _ _ hc q => floordiv_int hc.1 q (.inl (PyProof.noPylong_of_log2 hc.2))
theorem o_add : OkOp X w (binaryOp .Add) dAdd := by
  intro ρ h H x y dx dy Q R rx ry q
  cases dx with
  | int i => cases dy with
    | int j => cases rx; cases ry; exact op_add.to ⟨i, j, rfl, rfl, q.now R _ (.int _)⟩
    | _ => exact q.elim
  | lst n => cases dy with
    | lst m =>
      simp only [dAdd] at q
      split at q
      · rename_i a b ea eb
        obtain ⟨p, xs, rfl, _, hx, r1⟩ := mut_of R rx ea
        obtain ⟨p', ys, rfl, _, hy, r2⟩ := mut_of R ry eb
        obtain ⟨z, q'⟩ := alloc_ok R (r1.append r2) q
        exact op_cat.to ⟨p, p', xs, ys, rfl, rfl, hx, hy, by rw [← List.length_append]; exact z, q'⟩
      · exact q.elim
    | _ => exact q.elim
  | tup a => cases dy with
    | tup b =>
      simp only [dAdd] at q
      split at q
      · rename_i hn
        obtain ⟨p, xs, rfl, hx, r1⟩ := tup_of rx rfl
        obtain ⟨p', ys, rfl, hy, r2⟩ := tup_of ry rfl
        refine op_catA.to ⟨p, p', xs, ys, rfl, rfl, hx, hy, by rw [r1.length, r2.length]; exact le_line hn, fun e => ?_, fun _ e => ?_, fun _ _ t ht => ?_⟩
        · subst e; cases r1
          exact q.now R _ ry
        · subst e; cases r2
          rw [List.append_nil] at q
          exact q.now R _ rx
        · exact q _ _ (R.upd ht) (Ext.upd R ht) _ (.tup (.inl (.inl upd_same)) ((r1.append r2).mono R (Ext.upd R ht)))
      · exact q.elim
    | _ => exact q.elim
  | str a => cases dy with
    | str b =>
      simp only [dAdd] at q
      split at q
      · rename_i hn
        cases rx; cases ry
        exact op_add_str.to ⟨a, b, rfl, rfl, le_line hn, q.now R _ (.str _)⟩
      · exact q.elim
    | _ => exact q.elim
  | _ => exact q.elim
theorem o_sub : OkOp X w (binaryOp .Sub) dSub := by
  intro ρ h H x y dx dy Q R rx ry q
  cases dx with
  | int i => cases dy with
    | int j => cases rx; cases ry; exact op_sub.to ⟨i, j, rfl, rfl, q.now R _ (.int _)⟩
    | _ => exact q.elim
  | _ => exact q.elim
theorem o_mul0 (ρ : List Addr) (h : MH) (H : Hp) (x y : V) (dx dy : D) (Q : VK) (R : Rel X.K ρ h H) (rx : Rep X.K ρ H x dx) (ry : Rep X.K ρ H y dy)
    (q : Sat X.K w ρ H (dMul dx dy h) (fun d _ ρ' H' => ∀ v, Rep X.K ρ' H' v d → Q v H')) (nt : ∀ a, dx ≠ .tup a := by intro a z; cases z) : cOp X (binaryOp .Mult) x y H Q := by
  cases dx with
  | int i => cases dy with
    | int j =>
      simp only [dMul] at q
      split at q
      · rename_i hc
        cases rx; cases ry
        rcases Bool.or_eq_true_iff.mp hc with hc | hc
        · exact op_mulW.to ⟨i, j, rfl, rfl, (of_decide_eq_true (p := i.natAbs.log2 + j.natAbs.log2 < 1000000) hc), q.now R _ (.int _)⟩
        · refine op_mul.to ⟨i, j, rfl, rfl, ?_, q.now R _ (.int _)⟩
          rcases Bool.or_eq_true_iff.mp hc with hc | hc
          · exact .inl (of_decide_eq_true hc)
          · exact .inr (of_decide_eq_true hc)
      · exact q.elim
    | _ => exact q.elim
  | lst n => cases dy with
    | int k =>
      simp only [dMul] at q
      split at q
      · rename_i a ea
        split at q
        · rename_i hc
          obtain ⟨p, xs, rfl, _, hx, r1⟩ := mut_of R rx ea
          cases ry
          have rr : ∀ m : Nat, RepL X.K ρ H (List.replicate m xs).flatten (List.replicate m a).flatten := fun m => by
            induction m with
            | zero => exact .nil
            | succ m ih => rw [List.replicate_succ, List.replicate_succ, List.flatten_cons, List.flatten_cons]; exact r1.append ih
          obtain ⟨z, q'⟩ := alloc_ok R (rr k.toNat) q
          refine op_rep.to ⟨p, k, xs, rfl, rfl, hx, by omega, by omega, ?_, q'⟩
          rw [PyProof.Rows.lm_len_rep_flat, Nat.mul_comm] at z
          exact z
        · exact q.elim
      · exact q.elim
    | _ => exact q.elim
  | tup a => exact absurd rfl (nt a)
  | _ => exact q.elim
theorem o_mul : OkOp X w (binaryOp .Mult) dMul := by
  intro ρ h H x y dx dy Q R rx ry q
  cases dx with
  | tup a => cases dy with
    | int k =>
      simp only [dMul] at q
      split at q
      · rename_i hc
        obtain ⟨p, xs, rfl, hx, r1⟩ := tup_of rx rfl
        cases ry
        have rr : ∀ m : Nat, RepL X.K ρ H (List.replicate m xs).flatten (List.replicate m a).flatten := fun m => by
          induction m with
          | zero => exact .nil
          | succ m ih => rw [List.replicate_succ, List.replicate_succ, List.flatten_cons, List.flatten_cons]; exact r1.append ih
        refine op_repA.to ⟨p, k, xs, rfl, rfl, hx, by omega, by omega, by rw [r1.length]; omega, fun e => ?_, fun _ _ t ht => ?_⟩
        · have e2 : (List.replicate k.toNat a).flatten = a := by
            rcases e with e | e
            · subst e
              cases r1
              simp
            · subst e; simp
          rw [e2] at q
          exact q.now R _ rx
        · exact q _ _ (R.upd ht) (Ext.upd R ht) _ (.tup (.inl (.inl upd_same)) ((rr _).mono R (Ext.upd R ht)))
      · exact q.elim
    | _ => exact q.elim
  | _ => exact o_mul0 ρ h H x y _ dy Q R rx ry q
theorem o_fdiv : OkOp X w (binaryOp .FloorDiv) dFdiv := by
  intro ρ h H x y dx dy Q R rx ry q
  cases dx with
  | int i => cases dy with
    | int j =>
      simp only [dFdiv] at q
      split at q
      · rename_i hc
        cases rx; cases ry
        obtain ⟨h1, h2⟩ := Bool.and_eq_true_iff.mp hc
        exact op_fdivG.to ⟨i, j, rfl, rfl, ⟨of_decide_eq_true h1, of_decide_eq_true h2⟩, q.now R _ (.int _)⟩
      · exact q.elim
    | _ => exact q.elim
  | _ => exact q.elim
theorem o_mod : OkOp X w (binaryOp .Mod) dMod := by
  intro ρ h H x y dx dy Q R rx ry q
  cases dx with
  | int i => cases dy with
    | int j =>
      simp only [dMod] at q
      split at q
      · rename_i hc
        cases rx; cases ry
        exact op_modN.to ⟨i, j, rfl, rfl, hc, q.now R _ (.int _)⟩
      · exact q.elim
    | _ => exact q.elim
  | _ => exact q.elim
end

/-! ### comparisons -/
def dCmpI (p : Int → Int → Bool) : DOp
  | .int i, .int j, h => .ok (.bl (p i j)) h
  | _, _, _ => .err
abbrev dLt : DOp := dCmpI fun i j => decide (i < j)
abbrev dLe : DOp := dCmpI fun i j => decide (i ≤ j)
abbrev dGt : DOp := dCmpI fun i j => decide (j < i)
abbrev dGe : DOp := dCmpI fun i j => decide (j ≤ i)
/-- are two data equal: none where it can't be told -/
def eqD (x y : D) (h : MH) : Option Bool := match x, y with
  | .int i, .int j => some (decide (i = j))
  | _, _ => match py 40 h x, py 40 h y with
    | some d, some e => if SeqAt.shaped d && SeqAt.shaped e then some (PyData.eqv d e) else none
    | _, _ => none
def dEq : DOp := fun x y h => match eqD x y h with
  | some b => .ok (.bl b) h
  | none => .err
def dNe : DOp := fun x y h => match eqD x y h with
  | some b => .ok (.bl (!b)) h
  | none => .err
def isN : D → Bool
  | .non => true
  | _ => false
def dIs : DOp
  | x, .non, h => .ok (.bl (isN x)) h
  | .bl a, .bl b, h => .ok (.bl (decide (a = b))) h
  | _, _, _ => .err
def dIsNot : DOp
  | x, .non, h => .ok (.bl (!isN x)) h
  | .bl a, .bl b, h => .ok (.bl (!decide (a = b))) h
  | _, _, _ => .err
/-- x in a list or tuple -/
def inD (x y : D) (h : MH) : Option Bool := match dL h y with
  | some ds => match py 40 h x, pyL (py 40 h) ds with
    | some d, some es => if SeqAt.shaped d && SeqAt.shaped (.list es) then some (es.any fun z => PyData.eqv z d) else none
    | _, _ => none
  | none => match dT y with
    | some ds => match py 40 h x, pyL (py 40 h) ds with
      | some d, some es => if SeqAt.shaped d && SeqAt.shaped (.tuple es) then some (es.any fun z => PyData.eqv z d) else none
      | _, _ => none
    | none => none
def dIn : DOp := fun x y h => match inD x y h with
  | some b => .ok (.bl b) h
  | none => .err
def dNotIn : DOp := fun x y h => match inD x y h with
  | some b => .ok (.bl (!b)) h
  | none => .err
section
variable {X : Cx} {w : XK}
theorem o_cmpI {op : CmpOp} {p : Int → Int → Bool} (r : OpR X (compareOp op) (rI0 fun i j => .bl (p i j))) : OkOp X w (compareOp op) (dCmpI p) := by
  intro ρ h H x y dx dy Q R rx ry q
  cases dx with
  | int i => cases dy with
    | int j => cases rx; cases ry; exact r.to ⟨i, j, rfl, rfl, q.now R _ (.bl _)⟩
    | _ => exact q.elim
  | _ => exact q.elim
theorem o_lt : OkOp X w (compareOp .Lt) dLt := o_cmpI op_lt
theorem o_le : OkOp X w (compareOp .LtE) dLe := o_cmpI op_le
theorem o_gt : OkOp X w (compareOp .Gt) dGt := o_cmpI op_gt
theorem o_ge : OkOp X w (compareOp .GtE) dGe := o_cmpI op_ge
theorem eqD_int {i j : Int} {h : MH} : eqD (.int i) (.int j) h = some (decide (i = j)) := rfl
theorem eqD_ok {K : PySem.W.Frag} {ρ : List Addr} {H : Hp} {h : MH} {x y : V} {dx dy : D} {b : Bool} (R : Rel K ρ h H) (rx : Rep K ρ H x dx) (ry : Rep K ρ H y dy) (e : eqD dx dy h = some b) :
    (∃ d e, Dp K H x d ∧ Dp K H y e ∧ SeqAt.shaped d = true ∧ SeqAt.shaped e = true ∧ PyData.eqv d e = b) := by
  unfold eqD at e
  split at e
  · cases e; cases rx; cases ry
    refine ⟨_, _, .int _, .int _, rfl, rfl, ?_⟩
    rw [PyData.eqv]
    exact Bool.beq_eq_decide_eq _ _
  · split at e
    · rename_i d d' e1 e2
      split at e
      · rename_i hs
        obtain ⟨s1, s2⟩ := Bool.and_eq_true_iff.mp hs
        cases e
        exact ⟨d, d', dp_of R _ _ _ _ e1 rx, dp_of R _ _ _ _ e2 ry, s1, s2, rfl⟩
      · cases e
    · cases e
theorem o_eq (hu : X.A.units + 65 < cLine) : OkOp X w (compareOp .Eq) dEq := by
  intro ρ h H x y dx dy Q R rx ry q
  unfold dEq at q
  split at q
  · rename_i b e
    obtain ⟨d, d', h1, h2, h3, h4, h5⟩ := eqD_ok R rx ry e
    exact (op_eqD (by omega)).to ⟨d, d', h1, h2, h3, h4, by rw [h5]; exact q.now R _ (.bl _)⟩
  · exact q.elim
theorem o_ne (hu : X.A.units + 65 < cLine) : OkOp X w (compareOp .NotEq) dNe := by
  intro ρ h H x y dx dy Q R rx ry q
  unfold dNe at q
  split at q
  · rename_i b e
    obtain ⟨d, d', h1, h2, h3, h4, h5⟩ := eqD_ok R rx ry e
    exact (op_neD (by omega)).to ⟨d, d', h1, h2, h3, h4, by rw [h5]; exact q.now R _ (.bl _)⟩
  · exact q.elim
theorem isN_of {K : PySem.W.Frag} {ρ : List Addr} {H : Hp} {x : V} {d : D} (r : Rep K ρ H x d) : decide (x = .non) = isN d := by
  cases r <;> first | rfl | exact decide_eq_false (by intro e; cases e)
theorem o_is : OkOp X w (compareOp .Is) dIs := by
  intro ρ h H x y dx dy Q R rx ry q
  cases dy with
  | non => cases ry; simp only [dIs] at q; exact op_isN.to ⟨rfl, by rw [isN_of rx]; exact q.now R _ (.bl _)⟩
  | bl b => cases dx with
    | bl a => cases rx; cases ry; exact op_isBl.to ⟨a, b, rfl, rfl, q.now R _ (.bl _)⟩
    | _ => exact q.elim
  | _ => cases dx <;> exact q.elim
theorem o_isnot : OkOp X w (compareOp .IsNot) dIsNot := by
  intro ρ h H x y dx dy Q R rx ry q
  cases dy with
  | non => cases ry; simp only [dIsNot] at q; exact op_notN.to ⟨rfl, by rw [isN_of rx]; exact q.now R _ (.bl _)⟩
  | bl b => cases dx with
    | bl a => cases rx; cases ry; exact op_notBl.to ⟨a, b, rfl, rfl, q.now R _ (.bl _)⟩
    | _ => exact q.elim
  | _ => cases dx <;> exact q.elim
def rInU (K : PySem.W.Frag) : R2 := fun x y H Q => ∃ d ds, Dp K H x d ∧ Dp K H y (.tuple ds) ∧ SeqAt.shaped d = true ∧ SeqAt.shaped (.tuple ds) = true ∧ Q (.bl (ds.any fun z => PyData.eqv z d)) H
def rNotInU (K : PySem.W.Frag) : R2 := fun x y H Q => ∃ d ds, Dp K H x d ∧ Dp K H y (.tuple ds) ∧ SeqAt.shaped d = true ∧ SeqAt.shaped (.tuple ds) = true ∧ Q (.bl (!ds.any fun z => PyData.eqv z d)) H
theorem op_inU (hu : X.A.units + 65 < cLine) : OpR X (compareOp .In) (rInU X.K) := by
  intro pins s σ H x y v u Q I rx ry h
  obtain ⟨d, ds, hd, he, sd, se, q⟩ := h
  obtain ⟨as, r1⟩ := Dp.reads I d x v hd rx
  obtain ⟨bs, r2⟩ := Dp.reads I (.tuple ds) y u he ry
  exact SeqAt.in_tuple_reads r2 r1 (SeqAt.canLay_of_shaped se) (SeqAt.canLay_of_shaped sd) (room_in_shaped sd hu) ⟨.bl _, H, I, rfl, q⟩
theorem op_notInU (hu : X.A.units + 65 < cLine) : OpR X (compareOp .NotIn) (rNotInU X.K) := by
  intro pins s σ H x y v u Q I rx ry h
  obtain ⟨d, ds, hd, he, sd, se, q⟩ := h
  obtain ⟨as, r1⟩ := Dp.reads I d x v hd rx
  obtain ⟨bs, r2⟩ := Dp.reads I (.tuple ds) y u he ry
  exact SeqAt.notIn_tuple_reads r2 r1 (SeqAt.canLay_of_shaped se) (SeqAt.canLay_of_shaped sd) (room_in_shaped sd hu) ⟨.bl _, H, I, rfl, q⟩
theorem inD_ok {K : PySem.W.Frag} {ρ : List Addr} {H : Hp} {h : MH} {x y : V} {dx dy : D} {b : Bool} (R : Rel K ρ h H) (rx : Rep K ρ H x dx) (ry : Rep K ρ H y dy) (e : inD dx dy h = some b) :
    (∃ d es, Dp K H x d ∧ Dp K H y (.list es) ∧ SeqAt.shaped d = true ∧ SeqAt.shaped (.list es) = true ∧ (es.any fun z => PyData.eqv z d) = b) ∨
    (∃ d es, Dp K H x d ∧ Dp K H y (.tuple es) ∧ SeqAt.shaped d = true ∧ SeqAt.shaped (.tuple es) = true ∧ (es.any fun z => PyData.eqv z d) = b) := by
  unfold inD at e
  split at e
  · rename_i ds e0
    split at e
    · rename_i d es e1 e2
      split at e
      · rename_i hs
        obtain ⟨s1, s2⟩ := Bool.and_eq_true_iff.mp hs
        cases e
        obtain ⟨a, xs, rfl, q1, q2⟩ := lst_of R ry e0
        exact .inl ⟨d, es, dp_of R _ _ _ _ e1 rx, .lst q1 (dpL_of (dp_of R 40) _ _ _ e2 q2), s1, s2, rfl⟩
      · cases e
    · cases e
  · split at e
    · rename_i ds e0
      split at e
      · rename_i d es e1 e2
        split at e
        · rename_i hs
          obtain ⟨s1, s2⟩ := Bool.and_eq_true_iff.mp hs
          cases e
          obtain ⟨a, xs, rfl, q1, q2⟩ := tup_of ry e0
          exact .inr ⟨d, es, dp_of R _ _ _ _ e1 rx, .tup q1 (dpL_of (dp_of R 40) _ _ _ e2 q2), s1, s2, rfl⟩
        · cases e
      · cases e
    · cases e
theorem o_in (hu : X.A.units + 65 < cLine) : OkOp X w (compareOp .In) dIn := by
  intro ρ h H x y dx dy Q R rx ry q
  unfold dIn at q
  split at q
  · rename_i b e
    rcases inD_ok R rx ry e with ⟨d, es, h1, h2, h3, h4, h5⟩ | ⟨d, es, h1, h2, h3, h4, h5⟩
    · exact (op_inD hu).to ⟨d, es, h1, h2, h3, h4, by rw [h5]; exact q.now R _ (.bl _)⟩
    · exact (op_inU hu).to ⟨d, es, h1, h2, h3, h4, by rw [h5]; exact q.now R _ (.bl _)⟩
  · exact q.elim
theorem o_notin (hu : X.A.units + 65 < cLine) : OkOp X w (compareOp .NotIn) dNotIn := by
  intro ρ h H x y dx dy Q R rx ry q
  unfold dNotIn at q
  split at q
  · rename_i b e
    rcases inD_ok R rx ry e with ⟨d, es, h1, h2, h3, h4, h5⟩ | ⟨d, es, h1, h2, h3, h4, h5⟩
    · exact (op_notInD hu).to ⟨d, es, h1, h2, h3, h4, by rw [h5]; exact q.now R _ (.bl _)⟩
    · exact (op_notInU hu).to ⟨d, es, h1, h2, h3, h4, by rw [h5]; exact q.now R _ (.bl _)⟩
  · exact q.elim
end
end Sm

/-! SmD: tests, and or not, subscripts, slices, calls of built-ins and of methods. -/
namespace Sm
open PySem PySem.Spec PyProof.Rows L2

/-! ### truth -/
def dTru : D → MH → Res Bool
  | .non, h => .ok false h
  | .bl b, h => .ok b h
  | .int i, h => .ok (i != 0) h
  | .str y, h => if y.length ≤ 1000000 then .ok ((y.length : Int) != 0) h else .err
  | .tup ds, h => .ok (!ds.isEmpty) h
  | .fls ds, h => .ok (!ds.isEmpty) h
  | .lst n, h => match h[n]? with
    | some (.lst ds) => .ok (!ds.isEmpty) h
    | none => .err
theorem repL_empty {K : PySem.W.Frag} {ρ : List Addr} {H : Hp} {xs : List V} {ds : List D} (r : RepL K ρ H xs ds) : (!xs.isEmpty) = !ds.isEmpty := by cases r <;> rfl
theorem dTru_ok {K : PySem.W.Frag} {w : XK} {ρ : List Addr} {H : Hp} {h : MH} {d : D} {v : V} {P : Bool → Prop} (R : Rel K ρ h H) (r : Rep K ρ H v d) (q : Sat K w ρ H (dTru d h) (fun b _ _ _ => P b)) : ∃ k, TruV K v H k ∧ P k := by
  cases d with
  | non => cases r; exact ⟨false, rfl, q.now R⟩
  | bl b => cases r; exact ⟨b, rfl, q.now R⟩
  | int i => cases r; exact ⟨_, rfl, q.now R⟩
  | str y =>
    cases r
    simp only [dTru] at q
    split at q
    · rename_i hn; exact ⟨_, ⟨le_line hn, rfl⟩, q.now R⟩
    · exact q.elim
  | tup ds =>
    obtain ⟨a, xs, rfl, h1, h2⟩ := tup_of r rfl
    exact ⟨_, .inr (.inl ⟨xs, h1, rfl⟩), by rw [repL_empty h2]; exact q.now R⟩
  | fls ds =>
    obtain ⟨a, xs, rfl, h1, h2⟩ := lst_of R r rfl
    exact ⟨_, .inl ⟨xs, h1, rfl⟩, by rw [repL_empty h2]; exact q.now R⟩
  | lst n =>
    simp only [dTru] at q
    split at q
    · rename_i ds e
      obtain ⟨a, xs, rfl, _, h1, h2⟩ := mut_of R r e
      exact ⟨_, .inl ⟨xs, .inl (.inl h1), rfl⟩, by rw [repL_empty h2]; exact q.now R⟩
    · exact q.elim

theorem dTru_same {d : D} {h h' : MH} {k : Bool} (e : dTru d h = .ok k h') : h' = h := by
  cases d <;> simp only [dTru] at e <;> first
    | (cases e; rfl)
    | (split at e <;> first | (cases e; rfl) | cases e)
theorem dTru_noexc {d : D} {h h' : MH} {c : Str} {fs : List (Str × D)} : dTru d h ≠ .exc c fs h' := by
  intro e
  cases d <;> simp only [dTru] at e <;> first
    | cases e
    | (split at e <;> cases e)
theorem dTru_bind {K : PySem.W.Frag} {w : XK} {ρ : List Addr} {H : Hp} {h : MH} {d : D} {v : V} {α : Type} {k : Bool → MH → Res α} {P : α → MH → List Addr → Hp → Prop} (R : Rel K ρ h H) (r : Rep K ρ H v d)
    (q : Sat K w ρ H ((dTru d h).bind k) P) : ∃ b, TruV K v H b ∧ Sat K w ρ H (k b h) P := by
  refine dTru_ok (w := w) R r ?_
  cases e : dTru d h with
  | ok b h' =>
    rw [e] at q
    have e' := dTru_same e
    subst e'
    exact fun _ _ _ _ => q
  | exc c fs h' => exact absurd e dTru_noexc
  | err => rw [e] at q; exact q
section
variable {X : Cx} {w : XK} {a b c e : Expr} {es rest : List Expr} {fa fb fc f : FE} {ga gb : FT} {fl fl' : FA} {pos p : Pos}
def fTru (f : FE) : FT := fun σ h => (f σ h).bind dTru
theorem r_tru (ha : OkE X w a fa) (he : ∀ whole, isTrue a X.env whole = (do let v ← whole; standAt a.pos; holding [v] (truthy v)) := by intro _; rfl) : OkT X w a (fTru fa) := by
  intro σd h ρ σ H Q s R q
  refine (pt_truth pE he).to (ha _ _ _ _ _ _ s R (q.bind.imp ?_))
  intro d h1 ρ1 H1 R1 x1 q1 v rv
  have e : dTru d h1 = (dTru d h1).bind fun b h => .ok b h := by cases dTru d h1 <;> rfl
  rw [e] at q1
  obtain ⟨k, t, q2⟩ := dTru_bind R1 rv q1
  exact ⟨k, t, q2.now R1⟩
def fAndT (ga gb : FT) : FT := fun σ h => (ga σ h).bind fun b h1 => if b = true then gb σ h1 else .ok false h1
def fOrT (ga gb : FT) : FT := fun σ h => (ga σ h).bind fun b h1 => if b = true then .ok true h1 else gb σ h1
def fNotT (ga : FT) : FT := fun σ h => (ga σ h).bind fun b h1 => .ok (!b) h1
theorem r_wand1 (ha : OkT X w a ga) : OkW X w (.BoolOp .And [a] pos) ga := fun _ _ _ _ _ _ s R q => (pw_and1 pT).to (ha _ _ _ _ _ _ s R q)
theorem r_wor1 (ha : OkT X w a ga) : OkW X w (.BoolOp .Or [a] pos) ga := fun _ _ _ _ _ _ s R q => (pw_or1 pT).to (ha _ _ _ _ _ _ s R q)
theorem r_wand (ha : OkT X w a ga) (hb : OkW X w (.BoolOp .And (b :: rest) pos) gb) : OkW X w (.BoolOp .And (a :: b :: rest) pos) (fAndT ga gb) := by
  intro σd h ρ σ H Q s R q
  refine (pw_and pT pW).to (ha _ _ _ _ _ _ s R (q.bind.imp ?_))
  intro k h1 ρ1 H1 R1 x1 q1
  cases k with
  | true => exact hb _ _ _ _ _ _ (s.mono R x1) R1 q1
  | false => exact q1.now R1
theorem r_wor (ha : OkT X w a ga) (hb : OkW X w (.BoolOp .Or (b :: rest) pos) gb) : OkW X w (.BoolOp .Or (a :: b :: rest) pos) (fOrT ga gb) := by
  intro σd h ρ σ H Q s R q
  refine (pw_or pT pW).to (ha _ _ _ _ _ _ s R (q.bind.imp ?_))
  intro k h1 ρ1 H1 R1 x1 q1
  cases k with
  | true => exact q1.now R1
  | false => exact hb _ _ _ _ _ _ (s.mono R x1) R1 q1
theorem r_w (hw : OkW X w e ga) : OkT X w e ga := fun _ _ _ _ _ _ s R q => pW.pt.to (hw _ _ _ _ _ _ s R q)
theorem r_tnot (ha : OkT X w a ga) : OkT X w (.UnaryOp .Not a pos) (fNotT ga) := by
  intro σd h ρ σ H Q s R q
  refine (pt_not pT).to (ha _ _ _ _ _ _ s R (q.bind.imp ?_))
  intro k h1 ρ1 H1 R1 x1 q1
  exact q1.now R1
/-! as values -/
def fAndV (fa fb : FE) : FE := fun σ h => (fa σ h).bind fun d h1 => (dTru d h1).bind fun k h2 => if k = true then fb σ h2 else .ok d h2
def fOrV (fa fb : FE) : FE := fun σ h => (fa σ h).bind fun d h1 => (dTru d h1).bind fun k h2 => if k = true then .ok d h2 else fb σ h2
theorem r_one {op : BoolOp} (ha : OkE X w a fa) : OkE X w (.BoolOp op [a] pos) fa := fun _ _ _ _ _ _ s R q => (pe_one pE).to (ha _ _ _ _ _ _ s R q)
theorem r_and (ha : OkE X w a fa) (hb : OkE X w (.BoolOp .And (b :: rest) pos) fb) : OkE X w (.BoolOp .And (a :: b :: rest) pos) (fAndV fa fb) := by
  intro σd h ρ σ H Q s R q
  refine (pe_andT pE pE).to (ha _ _ _ _ _ _ s R (q.bind.imp ?_))
  intro d h1 ρ1 H1 R1 x1 q1 v rv
  obtain ⟨k, t, q2⟩ := dTru_bind R1 rv q1
  refine ⟨k, t, ?_⟩
  cases k with
  | true => exact hb _ _ _ _ _ _ (s.mono R x1) R1 q2
  | false => exact q2.now R1 _ rv
theorem r_or (ha : OkE X w a fa) (hb : OkE X w (.BoolOp .Or (b :: rest) pos) fb) : OkE X w (.BoolOp .Or (a :: b :: rest) pos) (fOrV fa fb) := by
  intro σd h ρ σ H Q s R q
  refine (pe_orT pE pE).to (ha _ _ _ _ _ _ s R (q.bind.imp ?_))
  intro d h1 ρ1 H1 R1 x1 q1 v rv
  obtain ⟨k, t, q2⟩ := dTru_bind R1 rv q1
  refine ⟨k, t, ?_⟩
  cases k with
  | true => exact q2.now R1 _ rv
  | false => exact hb _ _ _ _ _ _ (s.mono R x1) R1 q2
def fNotV (fa : FE) : FE := fun σ h => (fa σ h).bind fun d h1 => (dTru d h1).bind fun k h2 => .ok (.bl (!k)) h2
theorem r_not (ha : OkE X w a fa) : OkE X w (.UnaryOp .Not a pos) (fNotV fa) := by
  intro σd h ρ σ H Q s R q
  refine (pe_notT pE).to (ha _ _ _ _ _ _ s R (q.bind.imp ?_))
  intro d h1 ρ1 H1 R1 x1 q1 v rv
  obtain ⟨k, t, q2⟩ := dTru_bind R1 rv q1
  exact ⟨k, t, q2.now R1 _ (.bl _)⟩
def fNeg (fa : FE) : FE := fun σ h => (fa σ h).bind fun d h1 => match d with
  | .int i => .ok (.int (-i)) h1
  | _ => .err
theorem r_neg (ha : OkE X w a fa) : OkE X w (.UnaryOp .USub a pos) (fNeg fa) := by
  intro σd h ρ σ H Q s R q
  refine (pe_un un_neg pE).to (ha _ _ _ _ _ _ s R (q.bind.imp ?_))
  intro d h1 ρ1 H1 R1 x1 q1 v rv
  cases d with
  | int i => cases rv; exact ⟨i, rfl, q1.now R1 _ (.int _)⟩
  | _ => exact q1.elim
def fIfE (gc : FT) (fa fb : FE) : FE := fun σ h => (gc σ h).bind fun k h1 => if k = true then fa σ h1 else fb σ h1
theorem r_ifE (hc : OkT X w c ga) (ha : OkE X w a fa) (hb : OkE X w b fb) : OkE X w (.IfExp c a b pos) (fIfE ga fa fb) := by
  intro σd h ρ σ H Q s R q
  refine (pe_ifExp pT pE pE).to (hc _ _ _ _ _ _ s R (q.bind.imp ?_))
  intro k h1 ρ1 H1 R1 x1 q1
  cases k with
  | true => exact ha _ _ _ _ _ _ (s.mono R x1) R1 q1
  | false => exact hb _ _ _ _ _ _ (s.mono R x1) R1 q1
/-- a op b op' c -/
def fChain (o o' : DOp) (fa fb fc : FE) : FE := fun σ h => (fa σ h).bind fun x h1 => (fb σ h1).bind fun y h2 => (o x y h2).bind fun z h3 => (toB z h3).bind fun k h4 => if k = true then (fc σ h4).bind fun u h5 => o' y u h5 else .ok (.bl false) h4
theorem toB_bind {K : PySem.W.Frag} {w : XK} {ρ : List Addr} {H : Hp} {h : MH} {d : D} {v : V} {α : Type} {k : Bool → MH → Res α} {P : α → MH → List Addr → Hp → Prop} (r : Rep K ρ H v d)
    (q : Sat K w ρ H ((toB d h).bind k) P) : ∃ b, v = .bl b ∧ Sat K w ρ H (k b h) P := by
  cases d with
  | bl b => cases r; exact ⟨b, rfl, q⟩
  | _ => exact q.elim
theorem r_chain {op op' : CmpOp} {o o' : DOp} (ho : OkOp X w (compareOp op) o) (ho' : OkOp X w (compareOp op') o') (ha : OkE X w a fa) (hb : OkE X w b fb) (hc : OkE X w c fc) (hm : lastMarks [op, op'] [b, c] = false := by with_unfolding_all rfl) :
    OkE X w (.Compare a [op, op'] [b, c] pos) (fChain o o' fa fb fc) := by
  intro σd h ρ σ H Q s R q
  refine (pe_chain oC oC pE pE pE hm).to (ha _ _ _ _ _ _ s R (q.bind.imp ?_))
  intro x h1 ρ1 H1 R1 x1 q1 v rv
  refine hb _ _ _ _ _ _ (s.mono R x1) R1 (q1.bind.imp ?_)
  intro y h2 ρ2 H2 R2 x2 q2 u ru
  refine ho _ _ _ _ _ _ _ _ R2 (rv.mono R1 x2) ru (q2.bind.imp ?_)
  intro z h3 ρ3 H3 R3 x3 q3 t rt
  obtain ⟨k, rfl, q4⟩ := toB_bind rt q3
  refine ⟨k, rfl, ?_⟩
  cases k with
  | true =>
    refine hc _ _ _ _ _ _ (s.mono R (x1.trans (x2.trans x3))) R3 (q4.bind.imp ?_)
    intro u' h5 ρ5 H5 R5 x5 q5 v' rv'
    exact ho' _ _ _ _ _ _ _ _ R5 (ru.mono R2 (x3.trans x5)) rv' q5
  | false => exact q4.now R3 _ (.bl _)
theorem r_tchain {op op' : CmpOp} {o o' : DOp} (ho : OkOp X w (compareOp op) o) (ho' : OkOp X w (compareOp op') o') (ha : OkE X w a fa) (hb : OkE X w b fb) (hc : OkE X w c fc) (hm : lastMarks [op, op'] [b, c] = false := by with_unfolding_all rfl) :
    OkT X w (.Compare a [op, op'] [b, c] pos) (fTst (fChain o o' fa fb fc)) := by
  intro σd h ρ σ H Q s R q
  unfold fTst fChain at q
  rw [bind_assoc] at q
  refine (pt_chain oC oC pE pE pE hm).to (ha _ _ _ _ _ _ s R (q.bind.imp ?_))
  intro x h1 ρ1 H1 R1 x1 q1 v rv
  rw [bind_assoc] at q1
  refine hb _ _ _ _ _ _ (s.mono R x1) R1 (q1.bind.imp ?_)
  intro y h2 ρ2 H2 R2 x2 q2 u ru
  rw [bind_assoc] at q2
  refine ho _ _ _ _ _ _ _ _ R2 (rv.mono R1 x2) ru (q2.bind.imp ?_)
  intro z h3 ρ3 H3 R3 x3 q3 t rt
  rw [bind_assoc] at q3
  obtain ⟨k, rfl, q4⟩ := toB_bind rt q3
  refine ⟨k, rfl, ?_⟩
  cases k with
  | true =>
    simp only [if_true] at q4
    rw [bind_assoc] at q4
    refine hc _ _ _ _ _ _ (s.mono R (x1.trans (x2.trans x3))) R3 (q4.bind.imp ?_)
    intro u' h5 ρ5 H5 R5 x5 q5 v' rv'
    refine ho' _ _ _ _ _ _ _ _ R5 (ru.mono R2 (x3.trans x5)) rv' (q5.bind.imp ?_)
    intro z' h6 ρ6 H6 R6 x6 q6 t' rt'
    exact toB_ok (w := w) R6 rt' (by
      unfold toB at q6 ⊢
      split at q6
      · exact fun _ _ _ _ => q6.now R6
      · exact q6)
  | false => exact ⟨false, rfl, q4.now R3⟩

/-! ### subscripts -/
def dIx : DOp := fun x i h => match i with
  | .int j => match dI h x with
    | some ds => match atI ds j with
      | some d => .ok d h
      | none => .err
    | none => .err
  | _ => .err
theorem dI_cases {K : PySem.W.Frag} {ρ : List Addr} {H : Hp} {h : MH} {d : D} {v : V} {ds : List D} (R : Rel K ρ h H) (r : Rep K ρ H v d) (e : dI h d = some ds) : ∃ a xs, v = .ref a ∧ (SqL K H a xs ∨ SqT K H a xs) ∧ RepL K ρ H xs ds := by
  unfold dI at e
  split at e
  · rename_i ds' e'
    cases e
    obtain ⟨a, xs, h1, h2, h3⟩ := tup_of r e'
    exact ⟨a, xs, h1, .inr h2, h3⟩
  · obtain ⟨a, xs, h1, h2, h3⟩ := lst_of R r e
    exact ⟨a, xs, h1, .inl h2, h3⟩
theorem r_ix (ha : OkE X w a fa) (hb : OkE X w b fb) (hs : PlainIx b := by intro _ _; rfl) : OkE X w (.Subscript a b pos) (fOp dIx fa fb) := by
  intro σd h ρ σ H Q s R q
  refine (pe_ix ix_seq pE pE hs).to (ha _ _ _ _ _ _ s R (q.bind.imp ?_))
  intro d h1 ρ1 H1 R1 x1 q1 v rv
  refine hb _ _ _ _ _ _ (s.mono R x1) R1 (q1.bind.imp ?_)
  intro e h2 ρ2 H2 R2 x2 q2 u ru
  unfold dIx at q2
  split at q2
  · rename_i j
    cases ru
    split at q2
    · rename_i ds e1
      split at q2
      · rename_i d' e2
        obtain ⟨a, xs, rfl, h3, h4⟩ := dI_cases R2 (rv.mono R1 x2) e1
        obtain ⟨v', e3, r3⟩ := repL_at h4 e2
        rcases h3 with h3 | h3
        · exact .inl ⟨a, xs, j, v', rfl, rfl, h3, e3, q2.now R2 _ r3⟩
        · exact .inr (.inl ⟨a, xs, j, v', rfl, rfl, h3, e3, q2.now R2 _ r3⟩)
      · exact q2.elim
    · exact q2.elim
  · exact q2.elim
def cutD (ds : List D) (lo hi : Option Int) : List D := (ds.drop (HT.sIx ds.length 0 lo)).take (HT.sIx ds.length ds.length hi - HT.sIx ds.length 0 lo)
theorem repL_cut {K : PySem.W.Frag} {ρ : List Addr} {H : Hp} {xs : List V} {ds : List D} (r : RepL K ρ H xs ds) (lo hi : Option Int) : RepL K ρ H (cutV xs lo hi) (cutD ds lo hi) := by
  unfold cutV cutD
  rw [r.length]
  exact (r.drop _).take _
abbrev FO := Sg → MH → Res (Option Int)
def fNo : FO := fun _ h => .ok none h
def fSo (fa : FE) : FO := fun σ h => (fa σ h).bind fun d h1 => match d with
  | .int i => .ok (some i) h1
  | _ => .err
def tO (X : Cx) (e : Option Expr) : TO := fun σ H Q => ∀ pins s, Inv X pins σ H s → wpAny (model X.prog X.w) X.A (evalPart e X.env) (fun u s' => ∃ o H', Inv X pins σ H' s' ∧ IsPart u o ∧ Q o H') X.xe s
theorem pO {e : Option Expr} : PO X e (tO X e) := ⟨fun pins s _ _ _ I q => q pins s I⟩
theorem _root_.L2.PO.to {e : Option Expr} {t : TO} {σ : L2.St} {H : Hp} {Q : Option Int → Hp → Prop} (p : PO X e t) (q : t σ H Q) : tO X e σ H Q := fun pins s I => p.run pins s σ H Q I q
def OkO (X : Cx) (w : XK) (e : Option Expr) (f : FO) : Prop := ∀ (σd : Sg) (h : MH) (ρ : List Addr) (σ : L2.St) (H : Hp) (Q : Option Int → Hp → Prop), SRel X.K ρ H σ σd → Rel X.K ρ h H →
  Sat X.K w ρ H (f σd h) (fun b _ _ H' => Q b H') → tO X e σ H Q
theorem r_no : OkO X w none fNo := fun _ _ _ _ _ _ s R q => po_none.to (q.now R)
theorem r_so (ha : OkE X w a fa) : OkO X w (some a) (fSo fa) := by
  intro σd h ρ σ H Q s R q
  refine (po_some pE).to (ha _ _ _ _ _ _ s R (q.bind.imp ?_))
  intro d h1 ρ1 H1 R1 x1 q1 v rv
  cases d with
  | int i => cases rv; exact ⟨i, rfl, q1.now R1⟩
  | _ => exact q1.elim
def dSl (x : D) (lo hi : Option Int) (h : MH) : Res D := match dT x with
  | some ds => .ok (.tup (cutD ds lo hi)) h
  | none => match dL h x with
    | some ds => allocD (cutD ds lo hi) h
    | none => .err
def fSl (fa : FE) (fl fh : FO) : FE := fun σ h => (fa σ h).bind fun x h1 => (fl σ h1).bind fun l h2 => (fh σ h2).bind fun u h3 => dSl x l u h3
theorem r_slice {lo hi : Option Expr} {fl fh : FO} {p2 : Pos} (ha : OkE X w a fa) (hl : OkO X w lo fl) (hh : OkO X w hi fh) : OkE X w (.Subscript a (.Slice lo hi none p2) pos) (fSl fa fl fh) := by
  intro σd h ρ σ H Q s R q
  refine (pe_slice (sl_list.or sl_tupA) pE pO pO).to (ha _ _ _ _ _ _ s R (q.bind.imp ?_))
  intro d h1 ρ1 H1 R1 x1 q1 v rv
  refine hl _ _ _ _ _ _ (s.mono R x1) R1 (q1.bind.imp ?_)
  intro l h2 ρ2 H2 R2 x2 q2
  refine hh _ _ _ _ _ _ (s.mono R (x1.trans x2)) R2 (q2.bind.imp ?_)
  intro u h3 ρ3 H3 R3 x3 q3
  have rv3 := rv.mono R1 (x2.trans x3)
  unfold dSl at q3
  split at q3
  · rename_i ds e
    obtain ⟨a, xs, rfl, h4, h5⟩ := tup_of rv3 e
    refine .inr ⟨a, xs, rfl, h4, fun hw => ?_, fun hw p hp => ?_⟩
    · have e2 : cutD ds l u = ds := by
        unfold cutD
        rw [← h5.length, hw.1, hw.2, h5.length]
        simp
      rw [e2] at q3
      exact q3.now R3 _ (.tup h4 h5)
    · exact q3 _ _ (R3.upd hp) (Ext.upd R3 hp) _ (.tup (.inl (.inl upd_same)) ((repL_cut h5 l u).mono R3 (Ext.upd R3 hp)))
  · split at q3
    · rename_i ds e
      obtain ⟨a, xs, rfl, h4, h5⟩ := lst_of R3 rv3 e
      exact .inl ⟨a, xs, rfl, h4, (alloc_ok R3 (repL_cut h5 l u) q3).2⟩
    · exact q3.elim

/-! ### calls of built-ins -/
def cC (X : Cx) (fv : Value) : List V → Hp → VK → Prop := fun xs H Q => ∀ pins s σ us, Inv X pins σ H s → Vals xs us → wpAny (model X.prog X.w) X.A (call fv us) (EP X pins σ Q) X.xe s
theorem kC {fv : Value} : CallR X fv (cC X fv) := fun pins s σ H xs us Q I r q => q pins s σ us I r
theorem _root_.L2.CallR.to {fv : Value} {r : List V → Hp → VK → Prop} {xs : List V} {H : Hp} {Q : VK} (o : CallR X fv r) (q : r xs H Q) : cC X fv xs H Q := fun pins s σ us I rx => o pins s σ H xs us Q I rx q
abbrev DCl := List D → MH → Res D
def OkC (X : Cx) (w : XK) (fv : Value) (op : DCl) : Prop := ∀ (ρ : List Addr) (h : MH) (H : Hp) (xs : List V) (ds : List D) (Q : VK), Rel X.K ρ h H → RepL X.K ρ H xs ds →
  Sat X.K w ρ H (op ds h) (fun d _ ρ' H' => ∀ v, Rep X.K ρ' H' v d → Q v H') → cC X fv xs H Q
def fCB (op : DCl) (fl : FA) : FE := fun σ h => (fl σ h).bind fun ds h1 => op ds h1
theorem r_callB {id : String} {op : DCl} {x : Str} (hc : OkC X w (.builtin id) op) (hm : X.mg x = none) (hl : OkA X w (e :: es) fl) (hv : bootBuiltins x = some (.builtin id) := by decide +kernel) (hg : Gl X x := by rfl) (hn : x ≠ "__name__" := by decide) (hdb : (x == ("__debug__" : Str)) = false := by decide)
    (he : starEach (e :: es) X.env = (false, eval e X.env) :: starEach es X.env := by rfl) (hpl : (backTo pos (starEach es X.env)).any (·.1) = false := by rfl) : OkE X w (.Call (.Name x p) (e :: es) [] pos) (fCB op fl) := by
  intro σd h ρ σ H Q s R q
  refine (pe_callB kC hg hm hv pA hn hdb he hpl).to (hl _ _ _ _ _ _ s R (q.bind.imp ?_))
  intro ds h1 ρ1 H1 R1 x1 q1 vs rvs
  exact hc _ _ _ _ _ _ R1 rvs q1
theorem r_callTy {T : String} {op : DCl} {x : Str} (hc : OkC X w (.type T) op) (hm : X.mg x = none) (hl : OkA X w (e :: es) fl) (hv : bootBuiltins x = some (.type T) := by decide +kernel) (hg : Gl X x := by rfl) (hn : x ≠ "__name__" := by decide) (hdb : (x == ("__debug__" : Str)) = false := by decide)
    (he : starEach (e :: es) X.env = (false, eval e X.env) :: starEach es X.env := by rfl) (hpl : (backTo pos (starEach es X.env)).any (·.1) = false := by rfl) : OkE X w (.Call (.Name x p) (e :: es) [] pos) (fCB op fl) := by
  intro σd h ρ σ H Q s R q
  refine (pe_callTy kC hg hm hv pA hn hdb he hpl).to (hl _ _ _ _ _ _ s R (q.bind.imp ?_))
  intro ds h1 ρ1 H1 R1 x1 q1 vs rvs
  exact hc _ _ _ _ _ _ R1 rvs q1
def cLen : DCl
  | [x], h => match dI h x with
    | some ds => .ok (.int ds.length) h
    | none => .err
  | _, _ => .err
theorem one_of {K : PySem.W.Frag} {ρ : List Addr} {H : Hp} {xs : List V} {d : D} (r : RepL K ρ H xs [d]) : ∃ v, xs = [v] ∧ Rep K ρ H v d := by
  cases r with
  | cons a b => cases b; exact ⟨_, rfl, a⟩
theorem two_of {K : PySem.W.Frag} {ρ : List Addr} {H : Hp} {xs : List V} {d e : D} (r : RepL K ρ H xs [d, e]) : ∃ v u, xs = [v, u] ∧ Rep K ρ H v d ∧ Rep K ρ H u e := by
  cases r with
  | cons a b => obtain ⟨u, rfl, q⟩ := one_of b; exact ⟨_, u, rfl, a, q⟩
theorem k_len : OkC X w (.builtin "len") cLen := by
  intro ρ h H xs ds Q R r q
  unfold cLen at q
  split at q
  · rename_i d
    obtain ⟨v, rfl, rv⟩ := one_of r
    split at q
    · rename_i es e
      obtain ⟨a, ys, rfl, h1, h2⟩ := dI_cases R rv e
      exact call_len_seq.to ⟨a, ys, rfl, h1, by rw [h2.length]; exact q.now R _ (.int _)⟩
    · exact q.elim
  · exact q.elim
def cAbs : DCl
  | [.int i], h => .ok (.int (if i < 0 then -i else i)) h
  | _, _ => .err
theorem k_abs : OkC X w (.builtin "abs") cAbs := by
  intro ρ h H xs ds Q R r q
  unfold cAbs at q
  split at q
  · obtain ⟨v, rfl, rv⟩ := one_of r
    cases rv
    exact call_abs.to ⟨_, rfl, q.now R _ (.int _)⟩
  · exact q.elim
def cInt : DCl
  | [.int i], h => .ok (.int i) h
  | [.bl k], h => .ok (.int (if k then 1 else 0)) h
  | _, _ => .err
theorem k_int : OkC X w (.type "int") cInt := by
  intro ρ h H xs ds Q R r q
  unfold cInt at q
  split at q
  · obtain ⟨v, rfl, rv⟩ := one_of r
    cases rv
    exact call_int1.to (.inl ⟨_, rfl, q.now R _ (.int _)⟩)
  · obtain ⟨v, rfl, rv⟩ := one_of r
    cases rv
    exact call_int1.to (.inr ⟨_, rfl, q.now R _ (.int _)⟩)
  · exact q.elim
def blsD : List D → Option (List Bool)
  | [] => some []
  | .bl b :: r => (blsD r).map (b :: ·)
  | _ => none
theorem bls_of {K : PySem.W.Frag} {ρ : List Addr} {H : Hp} : ∀ {ds : List D} {xs : List V} {bs : List Bool}, RepL K ρ H xs ds → blsD ds = some bs → xs = bs.map V.bl
  | [], _, _, r, e => by cases r; cases e; rfl
  | .bl b :: r, _, _, .cons q1 q2, e => by
    simp only [blsD, Option.map_eq_some_iff] at e
    obtain ⟨bs, e1, rfl⟩ := e
    cases q1
    rw [bls_of q2 e1]; rfl
  | .non :: _, _, _, _, e | .int _ :: _, _, _, _, e | .str _ :: _, _, _, _, e | .tup _ :: _, _, _, _, e | .fls _ :: _, _, _, _, e | .lst _ :: _, _, _, _, e => by simp [blsD] at e
def intsD : List D → Option (List Int)
  | [] => some []
  | .int b :: r => (intsD r).map (b :: ·)
  | _ => none
theorem ints_of {K : PySem.W.Frag} {ρ : List Addr} {H : Hp} : ∀ {ds : List D} {xs : List V} {bs : List Int}, RepL K ρ H xs ds → intsD ds = some bs → xs = bs.map V.int
  | [], _, _, r, e => by cases r; cases e; rfl
  | .int b :: r, _, _, .cons q1 q2, e => by
    simp only [intsD, Option.map_eq_some_iff] at e
    obtain ⟨bs, e1, rfl⟩ := e
    cases q1
    rw [ints_of q2 e1]; rfl
  | .non :: _, _, _, _, e | .bl _ :: _, _, _, _, e | .str _ :: _, _, _, _, e | .tup _ :: _, _, _, _, e | .fls _ :: _, _, _, _, e | .lst _ :: _, _, _, _, e => by simp [intsD] at e
def cAll : DCl
  | [x], h => match dL h x with
    | some ds => match blsD ds with
      | some bs => .ok (.bl (bs.all id)) h
      | none => .err
    | none => .err
  | _, _ => .err
def cAny : DCl
  | [x], h => match dL h x with
    | some ds => match blsD ds with
      | some bs => .ok (.bl (bs.any id)) h
      | none => .err
    | none => .err
  | _, _ => .err
theorem k_all (hc : X.calm = true) : OkC X w (.builtin "all") cAll := by
  intro ρ h H xs ds Q R r q
  unfold cAll at q
  split at q
  · obtain ⟨v, rfl, rv⟩ := one_of r
    split at q
    · rename_i es e
      split at q
      · rename_i bs e1
        obtain ⟨a, ys, rfl, h1, h2⟩ := lst_of R rv e
        rw [bls_of h2 e1] at h1
        exact (cr_all hc).to ⟨a, bs, rfl, h1, q.now R _ (.bl _)⟩
      · exact q.elim
    · exact q.elim
  · exact q.elim
theorem k_any (hc : X.calm = true) : OkC X w (.builtin "any") cAny := by
  intro ρ h H xs ds Q R r q
  unfold cAny at q
  split at q
  · obtain ⟨v, rfl, rv⟩ := one_of r
    split at q
    · rename_i es e
      split at q
      · rename_i bs e1
        obtain ⟨a, ys, rfl, h1, h2⟩ := lst_of R rv e
        rw [bls_of h2 e1] at h1
        exact (cr_any hc).to ⟨a, bs, rfl, h1, q.now R _ (.bl _)⟩
      · exact q.elim
    · exact q.elim
  · exact q.elim
def cSum : DCl
  | [x], h => match dL h x with
    | some ds => match intsD ds with
      | some bs => .ok (.int bs.sum) h
      | none => .err
    | none => .err
  | _, _ => .err
theorem k_sum (hc : X.calm = true) : OkC X w (.builtin "sum") cSum := by
  intro ρ h H xs ds Q R r q
  unfold cSum at q
  split at q
  · obtain ⟨v, rfl, rv⟩ := one_of r
    split at q
    · rename_i es e
      split at q
      · rename_i bs e1
        obtain ⟨a, ys, rfl, h1, h2⟩ := lst_of R rv e
        rw [ints_of h2 e1] at h1
        exact (cr_sum hc).to ⟨a, bs, rfl, h1, q.now R _ (.int _)⟩
      · exact q.elim
    · exact q.elim
  · exact q.elim
def cTup : DCl
  | [x], h => match dT x with
    | some ds => .ok (.tup ds) h
    | none => match dL h x with
      | some ds => .ok (.tup ds) h
      | none => .err
  | _, _ => .err
theorem call_tupK : CallR X (.type "tuple") (fun xs H Q => ∃ x, xs = [x] ∧ kTup X.K x H Q) := by
  intro pins s σ H xs us Q I r h
  obtain ⟨x, rfl, q⟩ := h
  obtain ⟨u, rfl, ru⟩ := vals1 r
  exact rl_tuple pins s σ H x u Q I ru q
theorem k_tuple : OkC X w (.type "tuple") cTup := by
  intro ρ h H xs ds Q R r q
  unfold cTup at q
  split at q
  · rename_i d
    obtain ⟨v, rfl, rv⟩ := one_of r
    split at q
    · rename_i es e
      obtain ⟨a, ys, rfl, h1, h2⟩ := tup_of rv e
      exact call_tupK.to ⟨_, rfl, .inr ⟨a, ys, rfl, h1, q.now R _ (.tup h1 h2)⟩⟩
    · split at q
      · rename_i es e
        obtain ⟨a, ys, rfl, h1, h2⟩ := lst_of R rv e
        refine call_tupK.to ⟨_, rfl, .inl ⟨a, ys, rfl, h1, fun p hp => ?_⟩⟩
        exact q _ _ (R.upd hp) (Ext.upd R hp) _ (.tup (.inl (.inl upd_same)) (h2.mono R (Ext.upd R hp)))
      · exact q.elim
  · exact q.elim
def cList : DCl
  | [x], h => match dI h x with
    | some ds => allocD ds h
    | none => .err
  | _, _ => .err
theorem k_list : OkC X w (.type "list") cList := by
  intro ρ h H xs ds Q R r q
  unfold cList at q
  split at q
  · rename_i d
    obtain ⟨v, rfl, rv⟩ := one_of r
    split at q
    · rename_i es e
      obtain ⟨a, ys, rfl, h1, h2⟩ := dI_cases R rv e
      exact call_list_of.to ⟨a, ys, rfl, h1, (alloc_ok R h2 q).2⟩
    · exact q.elim
  · exact q.elim
/-- list(range(n)), list(range(a, b)) -/
def rgD (a b : Int) : List D := (List.range (b - a).toNat).map fun i => D.int (a + (i : Nat))
theorem rep_rg {K : PySem.W.Frag} {ρ : List Addr} {H : Hp} (a b : Int) : RepL K ρ H (rgV a b) (rgD a b) := by
  unfold rgV rgD
  generalize List.range (b - a).toNat = l
  induction l with
  | nil => exact .nil
  | cons i l ih => exact .cons (.int _) ih
def lstRg (a b : Int) (h : MH) : Res D := if 0 ≤ a ∧ a ≤ 1000000 ∧ 0 ≤ b ∧ b ≤ 1000000 then allocD (rgD a b) h else .err
def fLR1 (fa : FE) : FE := fun σ h => (fa σ h).bind fun d h1 => match d with
  | .int n => lstRg 0 n h1
  | _ => .err
theorem r_listRg1 {p1 p2 pos1 pos2 : Pos} (hc : X.calm = true) (hm : X.mg "list" = none) (hm2 : X.mg "range" = none) (ha : OkE X w a fa) (hg : Gl X "list" := by rfl) (hg2 : Gl X "range" := by rfl)
    (na : starEach [a] X.env = (false, eval a X.env) :: starEach [] X.env := by rfl) (na2 : starEach [.Call (.Name "range" p2) [a] [] pos2] X.env = (false, eval (.Call (.Name "range" p2) [a] [] pos2) X.env) :: starEach [] X.env := by rfl) :
    OkE X w (.Call (.Name "list" p1) [.Call (.Name "range" p2) [a] [] pos2] [] pos1) (fLR1 fa) := by
  intro σd h ρ σ H Q s R q
  refine (pe_listRg hc hg hm (prg_1 hg2 hm2 pE na) na2).to (ha _ _ _ _ _ _ s R (q.bind.imp ?_))
  intro d h1 ρ1 H1 R1 x1 q1 v rv
  cases d with
  | int n =>
    cases rv
    simp only [lstRg] at q1
    split at q1
    · rename_i hn
      exact ⟨n, rfl, RgOk.of_le (by omega) (by omega) (by omega) (by omega), (alloc_ok R1 (rep_rg 0 n) q1).2⟩
    · exact q1.elim
  | _ => exact q1.elim
/-! isinstance -/
def tyN : D → String
  | .non => "NoneType"
  | .bl _ => "bool"
  | .int _ => "int"
  | .str _ => "str"
  | .tup _ => "tuple"
  | .fls _ => "list"
  | .lst _ => "list"
theorem ty_of {K : PySem.W.Frag} {ρ : List Addr} {H : Hp} {h : MH} {d : D} {v : V} (R : Rel K ρ h H) (r : Rep K ρ H v d) : TyX K H v (.type (tyN d)) := by
  cases r with
  | non => exact .base .non
  | bl b => exact .base (.bl b)
  | int i => exact .base (.int i)
  | str x => exact .base (.str x)
  | tup q _ =>
    rcases q with (q | ⟨o, q⟩) | ⟨o, its, n, q, qc, _⟩
    · exact .base (.tup q)
    · exact .fTuple q
    · exact .kTuple q qc
  | fls q _ =>
    rcases q with ⟨o, q⟩ | ⟨o, its, n, q, qc, _⟩
    · exact .base (.frz q)
    · exact .kList q qc
  | lst q =>
    obtain ⟨xs, q'⟩ := R.lstAt (List.mem_of_getElem? q)
    exact .base (.lst q')
def fIsi (T : String) (fa : FE) : FE := fun σ h => (fa σ h).bind fun d h1 => match kitB (tyN d) T with
  | some b => .ok (.bl b) h1
  | none => .err
theorem r_isi {T : String} {x : Str} {px : Pos} (hm : X.mg "isinstance" = none) (hmT : X.mg x = none) (ha : OkE X w a fa) (hvT : bootBuiltins x = some (.type T) := by decide +kernel) (hg : Gl X "isinstance" := by rfl) (hgT : Gl X x := by rfl)
    (hn : x ≠ "__name__" := by decide) (hdb : (x == ("__debug__" : Str)) = false := by decide)
    (he : starEach [a, .Name x px] X.env = (false, eval a X.env) :: starEach [.Name x px] X.env := by rfl) (he2 : starEach [.Name x px] X.env = (false, eval (.Name x px) X.env) :: starEach [] X.env := by rfl) (hpl : (backTo pos (starEach [.Name x px] X.env)).any (·.1) = false := by rfl) :
    OkE X w (.Call (.Name "isinstance" p) [a, .Name x px] [] pos) (fIsi T fa) := by
  intro σd h ρ σ H Q s R q
  refine (pe_callB call_isi hg hm (by decide +kernel) (pa_cons pE (pa_cons (pe_bltn (v := .ty T) hgT hmT hvT rfl hn hdb) pa_nil he2) he) (by decide) (by decide) he hpl).to (ha _ _ _ _ _ _ s R (q.bind.imp ?_))
  intro d h1 ρ1 H1 R1 x1 q1 v rv
  split at q1
  · rename_i b e
    exact ⟨v, .ty T, .type (tyN d), .type T, b, rfl, .ty T, ty_of R1 rv, kit_ty e, q1.now R1 _ (.bl b)⟩
  · exact q1.elim

/-! ### methods of lists -/
def cM (X : Cx) (id : String) : V → List V → Hp → VK → Prop := fun x xs H Q => ∀ pins s σ v us, Inv X pins σ H s → RelV x v → Vals xs us → wpAny (model X.prog X.w) X.A (call (.builtin id) (v :: us)) (EP X pins σ Q) X.xe s
theorem mC {id : String} : MtR X id (cM X id) := fun pins s σ H x xs v us Q I rx rxs q => q pins s σ v us I rx rxs
theorem _root_.L2.MtR.to {id : String} {r : V → List V → Hp → VK → Prop} {x : V} {xs : List V} {H : Hp} {Q : VK} (o : MtR X id r) (q : r x xs H Q) : cM X id x xs H Q := fun pins s σ v us I rx rxs => o pins s σ H x xs v us Q I rx rxs q
theorem _root_.L2.MtM.to {id : String} {r : V → List V → Hp → VK → Prop} {x : V} {xs : List V} {H : Hp} {Q : VK} (o : MtM X id r) (q : r x xs H Q) : cM X id x xs H Q := fun pins s σ v us I rx rxs => o pins s σ H x xs v us Q I rx rxs q
abbrev DMt := D → List D → MH → Res D
def OkM (X : Cx) (w : XK) (id : String) (op : DMt) : Prop := ∀ (ρ : List Addr) (h : MH) (H : Hp) (x : V) (dx : D) (xs : List V) (ds : List D) (Q : VK), Rel X.K ρ h H → Rep X.K ρ H x dx → RepL X.K ρ H xs ds →
  Sat X.K w ρ H (op dx ds h) (fun d _ ρ' H' => ∀ v, Rep X.K ρ' H' v d → Q v H') → cM X id x xs H Q
def isL : D → Bool
  | .lst _ => true
  | .fls _ => true
  | _ => false
theorem isL_ty {K : PySem.W.Frag} {ρ : List Addr} {H : Hp} {h : MH} {d : D} {v : V} (R : Rel K ρ h H) (r : Rep K ρ H v d) (e : isL d = true) : tyV K "list" v H := by
  cases r with
  | lst q =>
    obtain ⟨xs, q'⟩ := R.lstAt (List.mem_of_getElem? q)
    exact .inl ⟨rfl, xs, .inl (.inl q')⟩
  | fls q _ => exact .inl ⟨rfl, _, q.seq⟩
  | _ => cases e
def fMt (op : DMt) (fo : FE) (fl : FA) : FE := fun σ h => (fo σ h).bind fun x h1 => if isL x = true then (fl σ h1).bind fun ds h2 => op x ds h2 else .err
theorem r_meth {name : Str} {id : String} {op : DMt} {o : Expr} {fo : FE} {apos : Pos} (slot : Slot "list" name id) (hty : typeOf (.builtin id) = pure (.type "method_descriptor")) (hm : OkM X w id op) (ho : OkE X w o fo) (hl : OkA X w (e :: es) fl)
    (hbase : attributeBase o name X.env (eval o X.env) = eval o X.env := by rfl)
    (hfew : ((backTo pos (starEach (e :: es) X.env)).all (fun x => !x.1) && (backToKw pos (keywordEach [] X.env)).all (fun x => x.1.isSome)
      && decide ((e :: es).length + ([] : List Keyword).length + (if ([] : List Keyword).isEmpty then 0 else 1) < 30)) = true := by rfl)
    (hline : (apos.endLine == pos.line) = true := by rfl) (hs : starEach (e :: es) X.env = (false, eval e X.env) :: starEach es X.env := by rfl) (hplain : (backTo pos (starEach es X.env)).any (·.1) = false := by rfl) :
    OkE X w (.Call (.Attribute o name apos) (e :: es) [] pos) (fMt op fo fl) := by
  intro σd h ρ σ H Q s R q
  refine (pe_bm PySem.F.plainAttrs_list slot hty mC pE pA hbase hfew hline hs hplain).to (ho _ _ _ _ _ _ s R (q.bind.imp ?_))
  intro x h1 ρ1 H1 R1 x1 q1 v rv
  split at q1
  · rename_i hL
    refine ⟨isL_ty R1 rv hL, hl _ _ _ _ _ _ (s.mono R x1) R1 (q1.bind.imp ?_)⟩
    intro ds h2 ρ2 H2 R2 x2 q2 vs rvs
    exact hm _ _ _ _ _ _ _ _ R2 (rv.mono R1 x2) rvs q2
  · exact q1.elim
def mAppend : DMt
  | .lst n, [y], h => match h[n]? with
    | some (.lst ds) => if ds.length < 1000000 then .ok .non (h.set n (.lst (ds ++ [y]))) else .err
    | none => .err
  | _, _, _ => .err
theorem lt_line {n : Nat} (h : n < 1000000) : n < sizeLine := Nat.lt_trans h (by decide)
theorem m_append : OkM X w "list.append" mAppend := by
  intro ρ h H x dx xs ds Q R rx rxs q
  unfold mAppend at q
  split at q
  · obtain ⟨v, rfl, rv⟩ := one_of rxs
    split at q
    · rename_i es e
      split at q
      · rename_i hn
        obtain ⟨a, ys, rfl, hr, h1, h2⟩ := mut_of R rx e
        exact mt_append.to ⟨a, ys, v, rfl, rfl, h1, by rw [h2.length]; exact lt_line hn, q _ _ (R.write hr (h2.append (.cons rv .nil))) (Ext.write R hr) _ .non⟩
      · exact q.elim
    · exact q.elim
  · exact q.elim
/-- xs.remove(k) of ints, where k is -/
def mRemove : DMt
  | .lst n, [.int k], h => match h[n]? with
    | some (.lst ds) => match intsD ds with
      | some ns => match ns.findIdx? (fun z => decide (z = k)) with
        | some j => .ok .non (h.set n (.lst (ds.eraseIdx j)))
        | none => .err
      | none => .err
    | none => .err
  | _, _, _ => .err
theorem m_remove : OkM X w "list.remove" mRemove := by
  intro ρ h H x dx xs ds Q R rx rxs q
  unfold mRemove at q
  split at q
  · obtain ⟨v, rfl, rv⟩ := one_of rxs
    cases rv
    split at q
    · rename_i es e
      split at q
      · rename_i ns e1
        split at q
        · rename_i k n _ _ j e2
          obtain ⟨a, ys, rfl, hr, h1, h2⟩ := mut_of R rx e
          have ey := ints_of h2 e1
          have r2 := h2.eraseIdx j
          subst ey
          rw [erase_mapI] at r2
          obtain ⟨hj, p1, p2⟩ := List.findIdx?_eq_some_iff_getElem.mp e2
          refine mt_remove.to ⟨a, ns, k, j, rfl, rfl, h1, by rw [List.getElem?_eq_getElem hj]; exact congrArg some (of_decide_eq_true p1), fun m hm z => ?_, q _ _ (R.write hr r2) (Ext.write R hr) _ .non⟩
          have := p2 m hm
          obtain ⟨hm', ez⟩ := List.getElem?_eq_some_iff.mp z
          rw [ez] at this
          simp at this
        · exact q.elim
      · exact q.elim
    · exact q.elim
  · exact q.elim
def mInsert : DMt
  | .lst n, [.int i, y], h => match h[n]? with
    | some (.lst ds) => if ds.length < 1000000 ∧ 0 ≤ i ∧ i < 1000000 then .ok .non (h.set n (.lst (ds.take i.toNat ++ [y] ++ ds.drop i.toNat))) else .err
    | none => .err
  | _, _, _ => .err
theorem m_insert : OkM X w "list.insert" mInsert := by
  intro ρ h H x dx xs ds Q R rx rxs q
  unfold mInsert at q
  split at q
  · obtain ⟨v, u, rfl, rv, ru⟩ := two_of rxs
    cases rv
    split at q
    · rename_i es e
      split at q
      · rename_i hn
        obtain ⟨a, ys, rfl, hr, h1, h2⟩ := mut_of R rx e
        exact mt_insert.to ⟨a, ys, _, u, rfl, rfl, h1, by rw [h2.length]; exact lt_line hn.1, hn.2.1, by omega, q _ _ (R.write hr (((h2.take _).append (.cons ru .nil)).append (h2.drop _))) (Ext.write R hr) _ .non⟩
      · exact q.elim
    · exact q.elim
  · exact q.elim
def mExtend : DMt
  | .lst n, [.lst m], h => match h[n]?, h[m]? with
    | some (.lst ds), some (.lst es) => if ds.length + es.length ≤ 1000000 then .ok .non (h.set n (.lst (ds ++ es))) else .err
    | _, _ => .err
  | _, _, _ => .err
theorem m_extend : OkM X w "list.extend" mExtend := by
  intro ρ h H x dx xs ds Q R rx rxs q
  unfold mExtend at q
  split at q
  · obtain ⟨v, rfl, rv⟩ := one_of rxs
    split at q
    · rename_i es es' e e'
      split at q
      · rename_i hn
        obtain ⟨a, ys, rfl, hr, h1, h2⟩ := mut_of R rx e
        obtain ⟨b, zs, rfl, _, h3, h4⟩ := mut_of R rv e'
        exact mt_extend.to ⟨a, b, ys, zs, rfl, rfl, h1, h3, by rw [h2.length, h4.length]; exact le_line hn, q _ _ (R.write hr (h2.append h4)) (Ext.write R hr) _ .non⟩
      · exact q.elim
    · exact q.elim
  · exact q.elim
/-- xs.index(y): the first place of an equal one -/
def mIndex : DMt := fun x ds h => match ds with
  | [y] => match dL h x with
    | some es => match py 40 h y, pyL (py 40 h) es with
      | some d, some ps => if SeqAt.shaped d && SeqAt.shaped (.list ps) then match ps.findIdx? (fun z => PyData.eqv z d) with
          | some j => .ok (.int (j : Nat)) h
          | none => .err
        else .err
      | _, _ => .err
    | none => .err
  | _ => .err
theorem m_index (hu : X.A.units + 65 < cLine) : OkM X w "list.index" mIndex := by
  intro ρ h H x dx xs ds Q R rx rxs q
  unfold mIndex at q
  split at q
  · rename_i y
    obtain ⟨v, rfl, rv⟩ := one_of rxs
    split at q
    · rename_i es e
      split at q
      · rename_i d ps e1 e2
        split at q
        · rename_i hs
          obtain ⟨s1, s2⟩ := Bool.and_eq_true_iff.mp hs
          split at q
          · rename_i j e3
            obtain ⟨a, ys, rfl, h1, h2⟩ := lst_of R rx e
            obtain ⟨hj, p1, p2⟩ := List.findIdx?_eq_some_iff_getElem.mp e3
            refine (mt_indexD hu).to ⟨a, v, d, ps, j, ps[j], rfl, rfl, .lst h1 (dpL_of (dp_of R 40) _ _ _ e2 h2), dp_of R _ _ _ _ e1 rv, s2, s1, List.getElem?_eq_getElem hj, p1, fun m z' hm hz => ?_, q.now R _ (.int _)⟩
            have := p2 m hm
            obtain ⟨hm', ez⟩ := List.getElem?_eq_some_iff.mp hz
            rw [ez] at this
            simpa using this
          · exact q.elim
        · exact q.elim
      · exact q.elim
    · exact q.elim
  · exact q.elim
end
end Sm

/-! SmE: statements, targets, loops, comprehensions, calls of defs, the small heap swept. -/
namespace Sm
open PySem PySem.Spec PyProof.Rows L2

inductive Fl where
  | nx (σ : Sg)
  | rt (d : D)
  | bk (σ : Sg)
  | ct (σ : Sg)
abbrev FS := Sg → MH → Res Fl
def EndOk (K : PySem.W.Frag) (ρ : List Addr) (H : Hp) (D : Ends) : Fl → Prop
  | .nx σd => ∀ σ, SRel K ρ H σ σd → D.nx σ H
  | .rt d => ∀ v, Rep K ρ H v d → D.rt v H
  | .bk σd => ∀ σ, SRel K ρ H σ σd → D.bk σ H
  | .ct σd => ∀ σ, SRel K ρ H σ σd → D.ct σ H
def tS (X : Cx) (st : Stmt) : TS := fun D σ H => ∀ pins s, Inv X pins σ H s → wpAny (model X.prog X.w) X.A (exec st X.env) (SP X pins D) X.xe s
def tSs (X : Cx) (st : List Stmt) : TS := fun D σ H => ∀ pins s, Inv X pins σ H s → wpAny (model X.prog X.w) X.A (execs st X.env) (SP X pins D) X.xe s
def tG (X : Cx) (tg : Expr) : TG := fun v σ H Q => ∀ pins s u, Inv X pins σ H s → RelV v u → wpAny (model X.prog X.w) X.A (assign tg X.env u) (fun _ s' => ∃ σ' H', Inv X pins σ' H' s' ∧ Q σ' H') X.xe s
def tGs (X : Cx) (ts : List Expr) : TGs := fun vs σ H Q => ∀ pins s us, Inv X pins σ H s → Vals vs us → wpAny (model X.prog X.w) X.A (assignInOrder ((assignEach ts X.env).map (·.2)) us) (fun _ s' => ∃ σ' H', Inv X pins σ' H' s' ∧ Q σ' H') X.xe s
section
variable {X : Cx} {st tg : Stmt} {sts : List Stmt} {e : Expr} {es : List Expr} {σ : L2.St} {H : Hp} {D : Ends}
theorem pS : PS X st (tS X st) := ⟨fun pins s _ _ _ I q => q pins s I⟩
theorem pSs : PSs X sts (tSs X sts) := ⟨fun pins s _ _ _ I q => q pins s I⟩
theorem pG : PG X e (tG X e) := ⟨fun pins s _ _ _ u _ I r q => q pins s u I r⟩
theorem pGs : PGs X es (tGs X es) := ⟨fun pins s _ _ _ us _ I r q => q pins s us I r⟩
theorem _root_.L2.PS.to {t : TS} (p : PS X st t) (q : t D σ H) : tS X st D σ H := fun pins s I => p.run pins s σ H D I q
theorem _root_.L2.PSs.to {t : TS} (p : PSs X sts t) (q : t D σ H) : tSs X sts D σ H := fun pins s I => p.run pins s σ H D I q
theorem _root_.L2.PG.to {t : TG} {v : V} {Q : L2.St → Hp → Prop} (p : PG X e t) (q : t v σ H Q) : tG X e v σ H Q := fun pins s u I r => p.run pins s σ H v u Q I r q
theorem _root_.L2.PGs.to {t : TGs} {v : List V} {Q : L2.St → Hp → Prop} (p : PGs X es t) (q : t v σ H Q) : tGs X es v σ H Q := fun pins s u I r => p.run pins s σ H v u Q I r q
end
def OkS (X : Cx) (w : XK) (st : Stmt) (f : FS) : Prop := ∀ (σd : Sg) (h : MH) (ρ : List Addr) (σ : L2.St) (H : Hp) (D : Ends), SRel X.K ρ H σ σd → Rel X.K ρ h H →
  Sat X.K w ρ H (f σd h) (fun fl _ ρ' H' => EndOk X.K ρ' H' D fl) → tS X st D σ H
def OkSs (X : Cx) (w : XK) (st : List Stmt) (f : FS) : Prop := ∀ (σd : Sg) (h : MH) (ρ : List Addr) (σ : L2.St) (H : Hp) (D : Ends), SRel X.K ρ H σ σd → Rel X.K ρ h H →
  Sat X.K w ρ H (f σd h) (fun fl _ ρ' H' => EndOk X.K ρ' H' D fl) → tSs X st D σ H
abbrev FG := D → Sg → MH → Res Sg
abbrev FGs := List D → Sg → MH → Res Sg
/-- at most these slots changed -/
structure Chg (js : List Nat) (σ σ' : L2.St) : Prop where
  same : ∀ i, i ∉ js → σ'[i]? = σ[i]?
  len : σ'.length = σ.length
/-- a target; js: the slots that it may store -/
def OkG (X : Cx) (w : XK) (tg : Expr) (js : List Nat) (f : FG) : Prop := ∀ (dx : D) (σd : Sg) (h : MH) (ρ : List Addr) (σ : L2.St) (H : Hp) (v : V) (Q : L2.St → Hp → Prop), SRel X.K ρ H σ σd → Rel X.K ρ h H → Rep X.K ρ H v dx →
  Sat X.K w ρ H (f dx σd h) (fun σd' _ ρ' H' => ∀ σ', SRel X.K ρ' H' σ' σd' → Chg js σ σ' → Q σ' H') → tG X tg v σ H Q
def OkGs (X : Cx) (w : XK) (tg : List Expr) (js : List Nat) (f : FGs) : Prop := ∀ (dx : List D) (σd : Sg) (h : MH) (ρ : List Addr) (σ : L2.St) (H : Hp) (v : List V) (Q : L2.St → Hp → Prop), SRel X.K ρ H σ σd → Rel X.K ρ h H → RepL X.K ρ H v dx →
  Sat X.K w ρ H (f dx σd h) (fun σd' _ ρ' H' => ∀ σ', SRel X.K ρ' H' σ' σd' → Chg js σ σ' → Q σ' H') → tGs X tg v σ H Q

section
variable {X : Cx} {w : XK} {a b c e o i : Expr} {es rest : List Expr} {fa fb fc f fo fi : FE} {ga gb : FT} {fl fl' : FA} {pos p : Pos} {st : Stmt} {sts : List Stmt} {g g' : FS}
/-! ### blocks and plain statements -/
def fNx : FS := fun σ h => .ok (.nx σ) h
def fSeq (f g : FS) : FS := fun σ h => (f σ h).bind fun fl h1 => match fl with
  | .nx σ1 => g σ1 h1
  | o => .ok o h1
theorem r_ss_nil : OkSs X w [] fNx := fun _ _ _ _ _ _ s R q => pss_nil.to (q.now R _ s)
theorem r_ss_one (h1 : OkS X w st g) : OkSs X w [st] g := fun _ _ _ _ _ _ s R q => (pss_one pS).to (h1 _ _ _ _ _ _ s R q)
theorem r_ss (h1 : OkS X w st g) (h2 : OkSs X w sts g') : OkSs X w (st :: sts) (fSeq g g') := by
  intro σd h ρ σ H D s R q
  refine (pss_cons pS pSs).to (h1 _ _ _ _ _ _ s R (q.bind.imp ?_))
  intro fl h1 ρ1 H1 R1 x1 q1
  cases fl with
  | nx σ1 => exact fun σ' s' => h2 _ _ _ _ _ _ s' R1 q1
  | rt d => exact fun v r => q1.now R1 v r
  | bk σ1 => exact fun σ' s' => q1.now R1 σ' s'
  | ct σ1 => exact fun σ' s' => q1.now R1 σ' s'
theorem r_pass : OkS X w (.Pass pos) fNx := fun _ _ _ _ _ _ s R q => ps_pass.to (q.now R _ s)
def fBk : FS := fun σ h => .ok (.bk σ) h
def fCt : FS := fun σ h => .ok (.ct σ) h
theorem r_break : OkS X w (.Break pos) fBk := fun _ _ _ _ _ _ s R q => ps_break.to (q.now R _ s)
theorem r_cont : OkS X w (.Continue pos) fCt := fun _ _ _ _ _ _ s R q => ps_continue.to (q.now R _ s)
def fExp (f : FE) : FS := fun σ h => (f σ h).bind fun _ h1 => .ok (.nx σ) h1
theorem r_expr (he : OkE X w e f) (hs : swapsWith e none pos.line X.env = pure false := by rfl) : OkS X w (.Expr e pos) (fExp f) := by
  intro σd h ρ σ H D s R q
  refine (ps_expr pE hs).to (he _ _ _ _ _ _ s R (q.bind.imp ?_))
  intro d h1 ρ1 H1 R1 x1 q1 v rv
  exact q1.now R1 _ (s.mono R x1)
def fRet (f : FE) : FS := fun σ h => (f σ h).bind fun d h1 => .ok (.rt d) h1
theorem r_ret (he : OkE X w e f) : OkS X w (.Return (some e) pos) (fRet f) := by
  intro σd h ρ σ H D s R q
  refine (ps_ret pE).to (he _ _ _ _ _ _ s R (q.bind.imp ?_))
  intro d h1 ρ1 H1 R1 x1 q1 v rv
  exact q1.now R1 _ rv
def fRetN : FS := fun σ h => .ok (.rt .non) h
theorem r_retN : OkS X w (.Return none pos) fRetN := fun _ _ _ _ _ _ s R q => ps_retN.to (q.now R _ .non)
def fIf (c : FT) (f g : FS) : FS := fun σ h => (c σ h).bind fun k h1 => if k = true then f σ h1 else g σ h1
theorem r_if {A B : List Stmt} (hc : OkT X w c ga) (ha : OkSs X w A g) (hb : OkSs X w B g') : OkS X w (.If c A B pos) (fIf ga g g') := by
  intro σd h ρ σ H D s R q
  refine (ps_if pT pSs pSs).to (hc _ _ _ _ _ _ s R (q.bind.imp ?_))
  intro k h1 ρ1 H1 R1 x1 q1
  cases k with
  | true => exact ha _ _ _ _ _ _ (s.mono R x1) R1 q1
  | false => exact hb _ _ _ _ _ _ (s.mono R x1) R1 q1

/-! ### targets -/
def gNm (i : Nat) : FG := fun d σ h => .ok (σ.set i (some d)) h
theorem r_gname (i : Nat) {x : Str} (hN : X.N.Nodup) (hi : X.N[i]? = some x := by rfl) (hx : Loc X.env.scope x := by first | exact .inl rfl | exact .inr rfl) (hf : X.fn x = true ∨ X.env.scope.names.lookup x = some .local := by first | exact .inl rfl | exact .inr rfl) :
    OkG X w (.Name x pos) [i] (gNm i) := by
  intro dx σd h ρ σ H v Q s R r q
  refine (pg_name hN hi hx hf).to ?_
  exact q.now R _ (s.set r) ⟨fun j hj => List.getElem?_set_ne (by intro e; exact hj (by rw [e]; exact List.mem_singleton.mpr rfl)), List.length_set ..⟩
def gsNil : FGs := fun ds σ h => match ds with
  | [] => .ok σ h
  | _ :: _ => .err
def gsCons (g : FG) (gs : FGs) : FGs := fun ds σ h => match ds with
  | [] => .err
  | d :: r => (g d σ h).bind fun σ1 h1 => gs r σ1 h1
theorem r_gnil : OkGs X w [] [] gsNil := by
  intro dx σd h ρ σ H v Q s R r q
  refine pgs_nil.to ?_
  cases r with
  | nil => exact ⟨rfl, q.now R _ s ⟨fun _ _ => rfl, rfl⟩⟩
  | cons _ _ => exact q.elim
theorem r_gcons {js ks : List Nat} {f1 : FG} {f2 : FGs} (h1 : OkG X w e js f1) (h2 : OkGs X w es ks f2) (hs : (assignEach (e :: es) X.env).map (·.2) = assign e X.env :: (assignEach es X.env).map (·.2) := by rfl) : OkGs X w (e :: es) (js ++ ks) (gsCons f1 f2) := by
  intro dx σd h ρ σ H v Q s R r q
  refine (pgs_cons pG pGs hs).to ?_
  cases r with
  | nil => exact q.elim
  | cons r1 r2 =>
    refine ⟨_, _, rfl, h1 _ _ _ _ _ _ _ _ s R r1 (q.bind.imp ?_)⟩
    intro σ1 h1' ρ1 H1 R1 x1 q1 σ' s' k'
    refine h2 _ _ _ _ _ _ _ _ s' R1 (r2.mono R x1) (q1.imp ?_)
    intro σ2 h2' ρ2 H2 R2 x2 q2 σ'' s'' k''
    refine q2 σ'' s'' ⟨fun i hi => ?_, k''.len.trans k'.len⟩
    have a := k''.same i fun m => hi (List.mem_append_right _ m)
    have b := k'.same i fun m => hi (List.mem_append_left _ m)
    rw [a, b]
def gTp (n : Nat) (gs : FGs) : FG := fun d σ h => match dT d with
  | some ds => if ds.length = n then gs ds σ h else .err
  | none => .err
theorem r_gtup {k n : Nat} {js : List Nat} {f2 : FGs} (hc : X.calm = true) (h : OkGs X w es js f2) (hn : (assignEach es X.env).length = n := by rfl) (hst : (assignEach es X.env).findIdx? (·.1) = none := by rfl) : OkG X w (.Tuple es k pos) js (gTp n f2) := by
  intro dx σd h0 ρ σ H v Q s R r q
  refine (pg_tup hc pGs hn hst).to ?_
  unfold gTp at q
  split at q
  · rename_i ds e1
    split at q
    · rename_i hl
      obtain ⟨a, xs, rfl, h1, h2⟩ := tup_of r e1
      exact ⟨a, xs, rfl, h1, by rw [h2.length]; exact hl, h _ _ _ _ _ _ _ _ s R h2 q⟩
    · exact q.elim
  · exact q.elim
def setD (x i v : D) (h : MH) : Res Unit := match x, i with
  | .lst n, .int k => match h[n]? with
    | some (.lst ds) => match ixN ds.length k with
      | some j => .ok () (h.set n (.lst (ds.set j v)))
      | none => .err
    | none => .err
  | _, _ => .err
def gSb (fo fi : FE) : FG := fun d σ h => (fo σ h).bind fun x h1 => (fi σ h1).bind fun i h2 => (setD x i d h2).bind fun _ h3 => .ok σ h3
theorem r_gsub (ho : OkE X w o fo) (hi : OkE X w i fi) (ha : ∀ v, assign (.Subscript o i pos) X.env v = (do
      let ov ← holding [v] (eval o X.env)
      let iv ← holding [v, ov] (eval i X.env)
      standAt pos
      holding [v, ov, iv] (setItem ov iv v)
      release [v, ov, iv] []) := by intro _; rfl) : OkG X w (.Subscript o i pos) [] (gSb fo fi) := by
  intro dx σd h ρ σ H v Q s R r q
  refine (pg_sub pE pE set_list ha).to (ho _ _ _ _ _ _ s R (q.bind.imp ?_))
  intro x h1 ρ1 H1 R1 x1 q1 vo ro
  refine hi _ _ _ _ _ _ (s.mono R x1) R1 (q1.bind.imp ?_)
  intro y h2 ρ2 H2 R2 x2 q2 vi ri
  have ro2 := ro.mono R1 x2
  have rv2 := r.mono R (x1.trans x2)
  have s2 := s.mono R (x1.trans x2)
  unfold setD at q2
  split at q2
  · rename_i n k
    cases ri
    split at q2
    · rename_i ds e1
      split at q2
      · rename_i j e2
        obtain ⟨a, xs, rfl, hr, hx, rx⟩ := mut_of R2 ro2 e1
        refine ⟨a, xs, k, j, rfl, rfl, hx, by rw [rx.length]; exact e2, ?_⟩
        have rw' := R2.write hr (RepL.set rv2 j rx)
        have ex : Ext ρ2 H2 ρ2 (upd H2 a (.lst (xs.set j v))) := Ext.write R2 hr
        exact q2 _ _ rw' ex _ (s2.mono R2 ex) ⟨fun _ _ => rfl, rfl⟩
      · exact q2.elim
    · exact q2.elim
  · exact q2.elim

/-! ### assignments -/
def fSet (i : Nat) (f : FE) : FS := fun σ h => (f σ h).bind fun d h1 => .ok (.nx (σ.set i (some d))) h1
theorem r_set (i : Nat) {x : Str} {pos' : Pos} (hN : X.N.Nodup) (he : OkE X w e f) (hi : X.N[i]? = some x := by rfl) (hx : Loc X.env.scope x := by first | exact .inl rfl | exact .inr rfl) (hs : swapsWith e (some (.Name x pos')) pos.line X.env = pure false := by rfl)
    (hf : X.fn x = true ∨ X.env.scope.names.lookup x = some .local := by first | exact .inl rfl | exact .inr rfl) : OkS X w (.Assign [.Name x pos'] e pos) (fSet i f) := by
  intro σd h ρ σ H D s R q
  refine (ps_set hN hi hx pE hs hf).to (he _ _ _ _ _ _ s R (q.bind.imp ?_))
  intro d h1 ρ1 H1 R1 x1 q1 v rv
  exact q1.now R1 _ ((s.mono R x1).set rv)
def fAsg (f : FE) (g : FG) : FS := fun σ h => (f σ h).bind fun d h1 => (g d σ h1).bind fun σ1 h2 => .ok (.nx σ1) h2
theorem r_asg {js : List Nat} {tg : Expr} {g : FG} (he : OkE X w e f) (hg : OkG X w tg js g) (hs : swapsWithSole [tg] e pos.line X.env = pure false := by rfl) (hw : swappedStores [tg] e X.env = pure none := by rfl) (h1 : (assignEach [tg] X.env).map (·.2) = [assign tg X.env] := by rfl) :
    OkS X w (.Assign [tg] e pos) (fAsg f g) := by
  intro σd h ρ σ H D s R q
  refine (ps_asg pE pG hs hw h1).to (he _ _ _ _ _ _ s R (q.bind.imp ?_))
  intro d h1 ρ1 H1 R1 x1 q1 v rv
  refine hg _ _ _ _ _ _ _ _ (s.mono R x1) R1 rv (q1.bind.imp ?_)
  intro σ1 h2 ρ2 H2 R2 x2 q2 σ' s' _
  exact q2.now R2 σ' s'
def fPar (i j : Nat) (fl : FA) : FS := fun σ h => (fl σ h).bind fun ds h1 => match ds with
  | [d, e] => .ok (.nx ((σ.set i (some d)).set j (some e))) h1
  | _ => .err
theorem r_par (i j : Nat) {x y : Str} {px py pt pt2 : Pos} {kt k2 : Nat} (hc : X.calm = true) (hN : X.N.Nodup) (hl : OkA X w [a, b] fl) (hi : X.N[i]? = some x := by rfl) (hj : X.N[j]? = some y := by rfl) (hij : i ≠ j := by decide)
    (hx : X.env.scope.names.lookup x = some .local := by rfl) (hy : X.env.scope.names.lookup y = some .local := by rfl)
    (hw : swappedStores [.Tuple [.Name x px, .Name y py] kt pt] (.Tuple [a, b] k2 pt2) X.env = pure (some [x, y]) := by rfl)
    (hs : swapsWithSole [.Tuple [.Name x px, .Name y py] kt pt] (.Tuple [a, b] k2 pt2) pos.line X.env = pure false := by rfl) :
    OkS X w (.Assign [.Tuple [.Name x px, .Name y py] kt pt] (.Tuple [a, b] k2 pt2) pos) (fPar i j fl) := by
  intro σd h ρ σ H D s R q
  refine (ps_par hc hN hi hj hij hx hy pA hw hs).to (hl _ _ _ _ _ _ s R (q.bind.imp ?_))
  intro ds h1 ρ1 H1 R1 x1 q1 vs rvs
  split at q1
  · obtain ⟨v, u, rfl, rv, ru⟩ := two_of rvs
    exact ⟨v, u, rfl, q1.now R1 _ (((s.mono R x1).set rv).set ru)⟩
  · exact q1.elim
theorem three_of {K : PySem.W.Frag} {ρ : List Addr} {H : Hp} {xs : List V} {d e c : D} (r : RepL K ρ H xs [d, e, c]) : ∃ v u t, xs = [v, u, t] ∧ Rep K ρ H v d ∧ Rep K ρ H u e ∧ Rep K ρ H t c := by
  cases r with
  | cons a b => obtain ⟨u, t, rfl, q⟩ := two_of b; exact ⟨_, u, t, rfl, a, q⟩
def fPar3 (i j l : Nat) (fl : FA) : FS := fun σ h => (fl σ h).bind fun ds h1 => match ds with
  | [d, e, c] => .ok (.nx (((σ.set i (some d)).set j (some e)).set l (some c))) h1
  | _ => .err
theorem r_par3 (i j l : Nat) {x y z : Str} {px py pz pt pt2 : Pos} {kt k2 : Nat} (hc : X.calm = true) (hN : X.N.Nodup) (hl : OkA X w [a, b, c] fl) (hi : X.N[i]? = some x := by rfl) (hj : X.N[j]? = some y := by rfl) (hk : X.N[l]? = some z := by rfl) (hij : i ≠ j := by decide) (hil : i ≠ l := by decide) (hjl : j ≠ l := by decide)
    (hx : X.env.scope.names.lookup x = some .local := by rfl) (hy : X.env.scope.names.lookup y = some .local := by rfl) (hz : X.env.scope.names.lookup z = some .local := by rfl)
    (hw : swappedStores [.Tuple [.Name x px, .Name y py, .Name z pz] kt pt] (.Tuple [a, b, c] k2 pt2) X.env = pure (some [x, y, z]) := by rfl)
    (hs : swapsWithSole [.Tuple [.Name x px, .Name y py, .Name z pz] kt pt] (.Tuple [a, b, c] k2 pt2) pos.line X.env = pure false := by rfl) :
    OkS X w (.Assign [.Tuple [.Name x px, .Name y py, .Name z pz] kt pt] (.Tuple [a, b, c] k2 pt2) pos) (fPar3 i j l fl) := by
  intro σd h ρ σ H D s R q
  refine (ps_par3 hc hN hi hj hk hij hil hjl hx hy hz pA hw hs).to (hl _ _ _ _ _ _ s R (q.bind.imp ?_))
  intro ds h1 ρ1 H1 R1 x1 q1 vs rvs
  split at q1
  · obtain ⟨v, u, t, rfl, rv, ru, rt⟩ := three_of rvs
    exact ⟨v, u, t, rfl, q1.now R1 _ ((((s.mono R x1).set rv).set ru).set rt)⟩
  · exact q1.elim
/-- name op= e, ints -/
def fAug (i : Nat) (op : DOp) (f : FE) : FS := fun σ h => match σ[i]? with
  | some (some x) => (f σ h).bind fun y h1 => (op x y h1).bind fun z h2 => .ok (.nx (σ.set i (some z))) h2
  | _ => .err
theorem r_aug (i : Nat) {x : Str} {op : Operator} {o : DOp} {pos' : Pos} (hN : X.N.Nodup) (ho : OkOp X w (inplaceOp op) o) (he : OkE X w e f) (hi : X.N[i]? = some x := by rfl) (hx : Loc X.env.scope x := by first | exact .inl rfl | exact .inr rfl)
    (hf : X.fn x = true ∨ X.env.scope.names.lookup x = some .local := by first | exact .inl rfl | exact .inr rfl) : OkS X w (.AugAssign (.Name x pos') op e pos) (fAug i o f) := by
  intro σd h ρ σ H D s R q
  have ip : PIp X op (cOp X (inplaceOp op)) := fun pins s σ H x y v u Q I rx ry q => q pins s σ v u I rx ry
  refine (ps_aug hN hi hx pE ip hf).to ?_
  unfold fAug at q
  split at q
  · rename_i dx e1
    obtain ⟨v, h1, h2⟩ := s.at_ i dx e1
    refine ⟨v, h1, he _ _ _ _ _ _ s R (q.bind.imp ?_)⟩
    intro dy h3 ρ1 H1 R1 x1 q1 u ru
    refine ho _ _ _ _ _ _ _ _ R1 (h2.mono R x1) ru (q1.bind.imp ?_)
    intro z h4 ρ2 H2 R2 x2 q2 t rt
    exact q2.now R2 _ ((s.mono R (x1.trans x2)).set rt)
  · exact q.elim
def dIAdd : DOp
  | .int i, .int j, h => .ok (.int (i + j)) h
  | _, _, _ => .err
theorem o_iadd : OkOp X w (inplaceOp .Add) dIAdd := by
  intro ρ h H x y dx dy Q R rx ry q
  cases dx with
  | int i => cases dy with
    | int j => cases rx; cases ry; exact iop_add.to ⟨i, j, rfl, rfl, q.now R _ (.int _)⟩
    | _ => exact q.elim
  | _ => exact q.elim

/-! ### while -/
def whileGo (c : FT) (b : FS) : Nat → FS
  | 0, _, _ => .err
  | n + 1, σ, h => (c σ h).bind fun k h1 => if k = true then (b σ h1).bind fun fl h2 => match fl with
      | .nx σ1 => whileGo c b n σ1 h2
      | .ct σ1 => whileGo c b n σ1 h2
      | .bk σ1 => .ok (.nx σ1) h2
      | .rt d => .ok (.rt d) h2
    else .ok (.nx σ) h1
theorem r_whileN (n : Nat) {body : List Stmt} (hp : PassesOwn (model X.prog X.w) X.A X.env X.xe) (hc : OkT X w c ga) (hb : OkSs X w body g) : OkS X w (.While c body [] pos) (whileGo ga g n) := by
  intro σd h ρ σ H D s R q
  refine (ps_while hp pT pSs).to ?_
  refine ⟨fun m σ H => ∃ σd h ρ, SRel X.K ρ H σ σd ∧ Rel X.K ρ h H ∧ Sat X.K w ρ H (whileGo ga g m σd h) (fun fl _ ρ' H' => EndOk X.K ρ' H' D fl), ⟨n, σd, h, ρ, s, R, q⟩, ?_⟩
  rintro m σ H ⟨σd, h, ρ, s, R, q⟩
  cases m with
  | zero => exact q.elim
  | succ m =>
    refine hc _ _ _ _ _ _ s R (q.bind.imp ?_)
    intro k h1 ρ1 H1 R1 x1 q1
    cases k with
    | true =>
      refine ⟨fun σ H => ∃ σd h ρ, SRel X.K ρ H σ σd ∧ Rel X.K ρ h H ∧ Sat X.K w ρ H (whileGo ga g m σd h) (fun fl _ ρ' H' => EndOk X.K ρ' H' D fl), fun σ' H' z => ⟨m, Nat.lt_succ_self _, z⟩, ?_⟩
      refine hb _ _ _ _ _ _ (s.mono R x1) R1 (q1.bind.imp ?_)
      intro fl h2 ρ2 H2 R2 x2 q2
      cases fl with
      | nx σ1 => exact fun σ' s' => ⟨σ1, h2, ρ2, s', R2, q2⟩
      | ct σ1 => exact fun σ' s' => ⟨σ1, h2, ρ2, s', R2, q2⟩
      | bk σ1 => exact fun σ' s' => q2.now R2 σ' s'
      | rt d => exact fun v r => q2.now R2 v r
    | false => exact q1.now R1 _ (s.mono R x1)
theorem whileGo_mono (c : FT) (b : FS) : ∀ (n m : Nat) (σ : Sg) (h : MH), n ≤ m → whileGo c b n σ h ≠ .err → whileGo c b m σ h = whileGo c b n σ h
  | 0, _, _, _, _, e => absurd rfl e
  | n + 1, 0, _, _, l, _ => absurd l (by omega)
  | n + 1, m + 1, σ, h, l, e => by
    simp only [whileGo] at e ⊢
    cases hc : c σ h with
    | ok k h1 =>
      rw [hc] at e
      simp only [bind_ok] at e ⊢
      cases k with
      | false => rfl
      | true =>
        simp only [if_true] at e ⊢
        cases hb : b σ h1 with
        | ok fl h2 =>
          rw [hb] at e
          simp only [bind_ok] at e ⊢
          cases fl with
          | nx σ1 => exact whileGo_mono c b n m σ1 h2 (by omega) e
          | ct σ1 => exact whileGo_mono c b n m σ1 h2 (by omega) e
          | bk σ1 => rfl
          | rt d => rfl
        | exc _ _ _ => rfl
        | err => rfl
    | exc _ _ _ => rfl
    | err => rfl
open Classical in
/-- the loop as far as it goes -/
noncomputable def fWhile (c : FT) (b : FS) : FS := fun σ h => if x : ∃ n, whileGo c b n σ h ≠ .err then whileGo c b (Classical.choose x) σ h else .err
theorem fWhile_eq {c : FT} {b : FS} {σ : Sg} {h : MH} (n : Nat) (e : whileGo c b n σ h ≠ .err) : fWhile c b σ h = whileGo c b n σ h := by
  have x : ∃ n, whileGo c b n σ h ≠ .err := ⟨n, e⟩
  unfold fWhile
  rw [dif_pos x]
  have e2 := Classical.choose_spec x
  by_cases l : n ≤ Classical.choose x
  · exact whileGo_mono c b _ _ σ h l e
  · exact (whileGo_mono c b _ _ σ h (by omega) e2).symm
theorem fWhile_of {c : FT} {b : FS} {σ : Sg} {h : MH} (n : Nat) {r : Res Fl} (e : whileGo c b n σ h = r) (hr : r ≠ .err) : fWhile c b σ h = r := by
  rw [fWhile_eq n (by rw [e]; exact hr), e]
theorem r_while {body : List Stmt} (hp : PassesOwn (model X.prog X.w) X.A X.env X.xe) (hc : OkT X w c ga) (hb : OkSs X w body g) : OkS X w (.While c body [] pos) (fWhile ga g) := by
  intro σd h ρ σ H D s R q
  by_cases x : ∃ n, whileGo ga g n σd h ≠ .err
  · unfold fWhile at q
    rw [dif_pos x] at q
    exact r_whileN _ hp hc hb σd h ρ σ H D s R q
  · unfold fWhile at q
    rw [dif_neg x] at q
    exact q.elim

/-! ### what is walked -/
inductive It' where
  | vals (ds : List D)
  | lst (n : Nat)
abbrev FI := Sg → MH → Res It'
/-- the items, told at the start; chk: what must hold of the small heap at each turn -/
def It'.items (h : MH) : It' → Option (List D)
  | .vals ds => some ds
  | .lst n => match h[n]? with
    | some (.lst ds) => some ds
    | none => none
def It'.chk (ds : List D) (h : MH) : It' → Bool
  | .vals _ => true
  | .lst n => decide (h[n]? = some (.lst ds))
/-- J walks it: whenever it is asked later -/
def ItOk (K : PySem.W.Frag) (ρ0 : List Addr) (H0 : Hp) (J : It) (it : It') : Prop := ∀ (ρ : List Addr) (h : MH) (H : Hp) (ds : List D), Rel K ρ h H → Ext ρ0 H0 ρ H → it.items h = some ds →
  (∀ (i : Nat) (d : D), ds[i]? = some d → J.go i H ∧ ∀ x H', J.yld i H x H' → ∃ ρ', Rel K ρ' h H' ∧ Ext ρ H ρ' H' ∧ Rep K ρ' H' x d) ∧ J.stop ds.length H
def tI (X : Cx) (tg iter : Expr) : TI := fun σ H R => ∀ pins s, Inv X pins σ H s → wpAny (model X.prog X.w) X.A (eval iter X.env) (fun v s1 => wpAny (model X.prog X.w) X.A (pyIter v) (PIE X pins σ tg R) X.xe s1) X.xe s
theorem pI {tg iter : Expr} : PI X tg iter (tI X tg iter) := ⟨fun pins s _ _ _ I q => q pins s I⟩
theorem _root_.L2.PI.to {tg iter : Expr} {t : TI} {σ : L2.St} {H : Hp} {R : It → Hp → Prop} (p : PI X tg iter t) (q : t σ H R) : tI X tg iter σ H R := fun pins s I => p.run pins s σ H R I q
def OkI (X : Cx) (w : XK) (tg iter : Expr) (f : FI) : Prop := ∀ (σd : Sg) (h : MH) (ρ : List Addr) (σ : L2.St) (H : Hp) (Q : It → Hp → Prop), SRel X.K ρ H σ σd → Rel X.K ρ h H →
  Sat X.K w ρ H (f σd h) (fun it _ ρ' H' => ∀ J, ItOk X.K ρ' H' J it → Q J H') → tI X tg iter σ H Q
/-- a list, a tuple -/
def iSeq (f : FE) : FI := fun σ h => (f σ h).bind fun d h1 => match d with
  | .lst n => .ok (.lst n) h1
  | .fls ds => .ok (.vals ds) h1
  | .tup ds => .ok (.vals ds) h1
  | _ => .err
theorem pi_any {tg l : Expr} {tl : TE} (hl : PE X l tl) : PI X tg l (fun σ H R => tl σ H fun x H1 => ∃ a, x = .ref a ∧ (((∃ xs, SqL X.K H1 a xs) ∧ R (Itl X.K a) H1) ∨ ((∃ xs, SqT X.K H1 a xs) ∧ R (Itt X.K a) H1))) := by
  refine ⟨fun pins s σ H R I h => ?_⟩
  refine thn (hl.run pins s σ H _ I h) fun v s1 ⟨x, H1, I1, r1, q1⟩ => ?_
  obtain ⟨a, rfl, q1⟩ := q1
  rcases q1 with ⟨⟨xs, hq⟩, q1⟩ | ⟨⟨xs, hq⟩, q1⟩
  · cases r1
    obtain ⟨its, rv, p, hz⟩ := I1.list hq
    refine wpAny_pyIter_list p.isList ?_
    refine ⟨s1.heap.objs.size, [s1.heap.objs.size], _, _, H1, rfl, I1.kept (t' := s1.toks) fun b o e => Heap.get?_push_of_some _ e, turn_list a _, ⟨_, Heap.get?_push_size _ rfl, rfl, rfl⟩, fun b hb => ?_, q1⟩
    have e : b = s1.heap.objs.size := by simpa using hb
    subst e
    exact I1.fpOk (Nat.le_refl _) (I1.hok.fresh (Nat.le_refl _))
  · cases r1
    obtain ⟨its, rv, p, hz⟩ := I1.tuple hq
    refine wpAny_pyIter_tuple (show s1.heap.IsTuple a its.toArray from p) ?_
    refine ⟨s1.heap.objs.size, [s1.heap.objs.size], _, _, H1, rfl, I1.kept (t' := s1.toks) fun b o e => Heap.get?_push_of_some _ e, turn_tuple a _, ⟨_, Heap.get?_push_size _ rfl, rfl, rfl⟩, fun b hb => ?_, q1⟩
    have e : b = s1.heap.objs.size := by simpa using hb
    subst e
    exact I1.fpOk (Nat.le_refl _) (I1.hok.fresh (Nat.le_refl _))
theorem itOk_list {K : PySem.W.Frag} {ρ : List Addr} {H : Hp} {h : MH} {a : Addr} {n : Nat} (R : Rel K ρ h H) (r : Rep K ρ H (.ref a) (.lst n)) : ItOk K ρ H (Itl K a) (.lst n) := by
  intro ρ1 h1 H1 ds R1 x1 e
  simp only [It'.items] at e
  split at e
  · rename_i ds' e'
    cases e
    obtain ⟨a', xs, ea, _, hx, rx⟩ := mut_of R1 (r.mono R x1) e'
    cases ea
    have hq : SqL K H1 a xs := .inl (.inl hx)
    refine ⟨fun i d ei => ?_, xs, hq, by rw [rx.length]; exact Nat.le_refl _⟩
    obtain ⟨v, ev, rv⟩ := rx.get ei
    refine ⟨⟨xs, v, hq, ev⟩, fun x H' y => ?_⟩
    obtain ⟨rfl, y⟩ := y
    have := y xs hq
    rw [ev] at this
    cases this
    exact ⟨ρ1, R1, Ext.refl, rv⟩
  · cases e
theorem itOk_fls {K : PySem.W.Frag} {ρ : List Addr} {H : Hp} {h : MH} {a : Addr} {es : List D} (R : Rel K ρ h H) (r : Rep K ρ H (.ref a) (.fls es)) : ItOk K ρ H (Itl K a) (.vals es) := by
  intro ρ1 h1 H1 ds R1 x1 e
  cases e
  obtain ⟨a', xs, ea, hq, rx⟩ := lst_of R1 (r.mono R x1) rfl
  cases ea
  refine ⟨fun i d ei => ?_, xs, hq, by rw [rx.length]; exact Nat.le_refl _⟩
  obtain ⟨v, ev, rv⟩ := rx.get ei
  refine ⟨⟨xs, v, hq, ev⟩, fun x H' y => ?_⟩
  obtain ⟨rfl, y⟩ := y
  have := y xs hq
  rw [ev] at this
  cases this
  exact ⟨ρ1, R1, Ext.refl, rv⟩
theorem itOk_tup {K : PySem.W.Frag} {ρ : List Addr} {H : Hp} {h : MH} {a : Addr} {es : List D} (R : Rel K ρ h H) (r : Rep K ρ H (.ref a) (.tup es)) : ItOk K ρ H (Itt K a) (.vals es) := by
  intro ρ1 h1 H1 ds R1 x1 e
  cases e
  obtain ⟨a', xs, ea, hq, rx⟩ := tup_of (r.mono R x1) rfl
  cases ea
  refine ⟨fun i d ei => ?_, xs, hq, by rw [rx.length]; exact Nat.le_refl _⟩
  obtain ⟨v, ev, rv⟩ := rx.get ei
  refine ⟨⟨xs, v, hq, ev⟩, fun x H' y => ?_⟩
  obtain ⟨rfl, y⟩ := y
  have := y xs hq
  rw [ev] at this
  cases this
  exact ⟨ρ1, R1, Ext.refl, rv⟩
theorem r_iseq {tg : Expr} (he : OkE X w e f) : OkI X w tg e (iSeq f) := by
  intro σd h ρ σ H Q s R q
  refine (pi_any pE).to (he _ _ _ _ _ _ s R (q.bind.imp ?_))
  intro d h1 ρ1 H1 R1 x1 q1 v rv
  cases d with
  | lst n =>
    have hv := rv
    cases rv with
    | lst eq =>
      obtain ⟨xs, hx⟩ := R1.lstAt (List.mem_of_getElem? eq)
      exact ⟨_, rfl, .inl ⟨⟨xs, .inl (.inl hx)⟩, q1.now R1 _ (itOk_list R1 hv)⟩⟩
  | fls ds =>
    have hv := rv
    cases rv with
    | fls q2 _ => exact ⟨_, rfl, .inl ⟨⟨_, q2.seq⟩, q1.now R1 _ (itOk_fls R1 hv)⟩⟩
  | tup ds =>
    have hv := rv
    cases rv with
    | tup q2 _ => exact ⟨_, rfl, .inr ⟨⟨_, q2⟩, q1.now R1 _ (itOk_tup R1 hv)⟩⟩
  | _ => exact q1.elim
/-- range(n), range(a, b), range(a, b, -1) -/
def iRg (lo hi : Int) (h : MH) : Res It' := if -1000000 ≤ lo ∧ lo ≤ 1000000 ∧ -1000000 ≤ hi ∧ hi ≤ 1000000 then .ok (.vals (rgD lo hi)) h else .err
def iRg1 (fa : FE) : FI := fun σ h => (fa σ h).bind fun d h1 => match d with
  | .int n => iRg 0 n h1
  | _ => .err
def iRg2 (fa fb : FE) : FI := fun σ h => (fa σ h).bind fun d h1 => (fb σ h1).bind fun e h2 => match d, e with
  | .int i, .int j => iRg i j h2
  | _, _ => .err
theorem rgD_length (a b : Int) : (rgD a b).length = (b - a).toNat := by unfold rgD; rw [List.length_map, List.length_range]
theorem itOk_rg {K : PySem.W.Frag} {ρ : List Addr} {H : Hp} {lo hi : Int} : ItOk K ρ H (Itr lo (hi - lo).toNat) (.vals (rgD lo hi)) := by
  intro ρ1 h1 H1 ds R1 x1 e
  cases e
  refine ⟨fun i d ei => ?_, by rw [rgD_length]; exact Nat.le_refl _⟩
  have hi' : i < (hi - lo).toNat := by
    have := (List.getElem?_eq_some_iff.mp ei).1
    rw [rgD_length] at this; exact this
  refine ⟨hi', fun x H' y => ?_⟩
  obtain ⟨rfl, rfl⟩ := y
  unfold rgD at ei
  rw [List.getElem?_map, List.getElem?_range hi'] at ei
  cases ei
  exact ⟨ρ1, R1, Ext.refl, .int _⟩
theorem r_irg1 {tg : Expr} (hm : X.mg "range" = none) (ha : OkE X w a fa) (hg : Gl X "range" := by rfl) (hs : starEach [a] X.env = (false, eval a X.env) :: starEach [] X.env := by rfl) (hs' : starEach [a] X.env = [(false, eval a X.env)] := by rfl) : OkI X w tg (.Call (.Name "range" p) [a] [] pos) (iRg1 fa) := by
  intro σd h ρ σ H Q s R q
  refine (pi_range1 hg hm (pa_cons pE pa_nil hs) hs').to (ha _ _ _ _ _ _ s R (q.bind.imp ?_))
  intro d h1 ρ1 H1 R1 x1 q1 v rv
  cases d with
  | int n =>
    cases rv
    simp only [iRg] at q1
    split at q1
    · rename_i hn
      refine ⟨n, rfl, by omega, by omega, ?_⟩
      have := q1.now R1 _ (itOk_rg (lo := 0) (hi := n))
      rw [show (n - 0).toNat = n.toNat by omega] at this
      exact this
    · exact q1.elim
  | _ => exact q1.elim
theorem r_irg2 {tg : Expr} (hm : X.mg "range" = none) (ha : OkE X w a fa) (hb : OkE X w b fb) (hg : Gl X "range" := by rfl) (hs : starEach [a, b] X.env = (false, eval a X.env) :: starEach [b] X.env := by rfl) (hs2 : starEach [b] X.env = (false, eval b X.env) :: starEach [] X.env := by rfl)
    (hs' : starEach [a, b] X.env = [(false, eval a X.env), (false, eval b X.env)] := by rfl) (hs2' : starEach [b] X.env = [(false, eval b X.env)] := by rfl) : OkI X w tg (.Call (.Name "range" p) [a, b] [] pos) (iRg2 fa fb) := by
  intro σd h ρ σ H Q s R q
  refine (pi_range2 hg hm (pa_cons pE (pa_cons pE pa_nil hs2) hs) hs' hs2').to (ha _ _ _ _ _ _ s R (q.bind.imp ?_))
  intro d h1 ρ1 H1 R1 x1 q1 v rv
  refine hb _ _ _ _ _ _ (s.mono R x1) R1 (q1.bind.imp ?_)
  intro d2 h2 ρ2 H2 R2 x2 q2 v2 rv2
  split at q2
  · cases rv; cases rv2
    simp only [iRg] at q2
    split at q2
    · rename_i hn
      exact ⟨_, _, rfl, by omega, q2.now R2 _ itOk_rg⟩
    · exact q2.elim
  · exact q2.elim
/-- range(a, b, c) with c = -1 -/
def rgDn (a b : Int) : List D := (List.range (a - b).toNat).map fun i => D.int (a - (i : Nat))
def iRgN (fa fb fc : FE) : FI := fun σ h => (fa σ h).bind fun d h1 => (fb σ h1).bind fun e h2 => (fc σ h2).bind fun c h3 => match d, e, c with
  | .int i, .int j, .int (-1) => if -1000000 ≤ i ∧ i ≤ 1000000 ∧ -1000000 ≤ j ∧ j ≤ 1000000 then .ok (.vals (rgDn i j)) h3 else .err
  | _, _, _ => .err
theorem rgDn_length (a b : Int) : (rgDn a b).length = (a - b).toNat := by unfold rgDn; rw [List.length_map, List.length_range]
theorem itOk_rgn {K : PySem.W.Frag} {ρ : List Addr} {H : Hp} {lo hi : Int} : ItOk K ρ H (Itc lo (-1) (lo - hi).toNat) (.vals (rgDn lo hi)) := by
  intro ρ1 h1 H1 ds R1 x1 e
  cases e
  refine ⟨fun i d ei => ?_, by rw [rgDn_length]; exact Nat.le_refl _⟩
  have hi' : i < (lo - hi).toNat := by
    have := (List.getElem?_eq_some_iff.mp ei).1
    rw [rgDn_length] at this; exact this
  refine ⟨hi', fun x H' y => ?_⟩
  obtain ⟨rfl, rfl⟩ := y
  unfold rgDn at ei
  rw [List.getElem?_map, List.getElem?_range hi'] at ei
  cases ei
  rw [show lo + (i : Int) * -1 = lo - (i : Int) by omega]
  exact ⟨ρ1, R1, Ext.refl, .int _⟩
theorem r_irgn {tg : Expr} (hm : X.mg "range" = none) (ha : OkE X w a fa) (hb : OkE X w b fb) (hc : OkE X w c fc) (hg : Gl X "range" := by rfl)
    (hs : starEach [a, b, c] X.env = (false, eval a X.env) :: starEach [b, c] X.env := by rfl) (hs2 : starEach [b, c] X.env = (false, eval b X.env) :: starEach [c] X.env := by rfl) (hs3 : starEach [c] X.env = (false, eval c X.env) :: starEach [] X.env := by rfl)
    (hpl : (backTo pos (starEach [b, c] X.env)).any (·.1) = false := by rfl) : OkI X w tg (.Call (.Name "range" p) [a, b, c] [] pos) (iRgN fa fb fc) := by
  intro σd h ρ σ H Q s R q
  refine (pi_range3 hg hm (pa_cons pE (pa_cons pE (pa_cons pE pa_nil hs3) hs2) hs) hs hpl).to (ha _ _ _ _ _ _ s R (q.bind.imp ?_))
  intro d h1 ρ1 H1 R1 x1 q1 v rv
  refine hb _ _ _ _ _ _ (s.mono R x1) R1 (q1.bind.imp ?_)
  intro d2 h2 ρ2 H2 R2 x2 q2 v2 rv2
  refine hc _ _ _ _ _ _ (s.mono R (x1.trans x2)) R2 (q2.bind.imp ?_)
  intro d3 h3 ρ3 H3 R3 x3 q3 v3 rv3
  split at q3
  · cases rv; cases rv2; cases rv3
    split at q3
    · rename_i hn
      exact ⟨_, _, _, _, rfl, RgC.neg (by omega) (by omega) (by omega) (by omega), q3.now R3 _ itOk_rgn⟩
    · exact q3.elim
  · exact q3.elim

/-! ### for -/
def forGo (chk : MH → Bool) (tgt : FG) (body : FS) : List D → FS
  | [], σ, h => if chk h = true then .ok (.nx σ) h else .err
  | d :: ds, σ, h => if chk h = true then (tgt d σ h).bind fun σ1 h1 => (body σ1 h1).bind fun fl h2 => match fl with
      | .nx σ2 => forGo chk tgt body ds σ2 h2
      | .ct σ2 => forGo chk tgt body ds σ2 h2
      | .bk σ2 => .ok (.nx σ2) h2
      | .rt d => .ok (.rt d) h2
    else .err
def fFor (fi : FI) (tgt : FG) (body : FS) : FS := fun σ h => (fi σ h).bind fun it h1 => match it.items h1 with
  | some ds => forGo (fun h => it.chk ds h) tgt body ds σ h1
  | none => .err
theorem chk_items {it : It'} {ds : List D} {h h' : MH} (e : it.items h = some ds) (c : it.chk ds h' = true) : it.items h' = some ds := by
  cases it with
  | vals _ => exact e
  | lst n =>
    have c' : h'[n]? = some (.lst ds) := of_decide_eq_true c
    simp only [It'.items]
    rw [c']
theorem r_for {tg iter : Expr} {body : List Stmt} {js : List Nat} {ft : FG} {fi : FI} (hp : PassesOwn (model X.prog X.w) X.A X.env X.xe) (hc : X.calm = true) (hi : OkI X w tg iter fi) (hg : OkG X w tg js ft) (hb : OkSs X w body g)
    (hs : ∀ x, foldedSetIterable iter X.env x = pure x := by intro _; rfl) : OkS X w (.For tg iter body [] pos) (fFor fi ft g) := by
  intro σd h ρ σ H D s R q
  refine (ps_for hp hc pI pG pSs hs).to (hi _ _ _ _ _ _ s R (q.bind.imp ?_))
  intro it h1 ρ1 H1 R1 x1 q1 J hJ
  split at q1
  · rename_i ds e0
    refine ⟨fun i m σ H => ∃ rest σd h ρ, rest = ds.drop i ∧ m = rest.length ∧ i ≤ ds.length ∧ SRel X.K ρ H σ σd ∧ Rel X.K ρ h H ∧ Ext ρ1 H1 ρ H ∧ Sat X.K w ρ H (forGo (fun h => it.chk ds h) ft g rest σd h) (fun fl _ ρ' H' => EndOk X.K ρ' H' D fl),
      ⟨ds.length, ds, σd, h1, ρ1, rfl, rfl, Nat.zero_le _, s.mono R x1, R1, Ext.refl, q1⟩, ?_⟩
    rintro i m σ H ⟨rest, σd, h, ρ, hr, hm, hle, s, R, x, q⟩
    cases rest with
    | nil =>
      unfold forGo at q
      split at q
      · rename_i hc'
        have hl : i = ds.length := by
          have := List.drop_eq_nil_iff.mp hr.symm
          omega
        obtain ⟨_, hst⟩ := hJ ρ h H ds R x (chk_items e0 hc')
        rw [← hl] at hst
        exact .inl ⟨hst, q.now R _ s⟩
      · exact q.elim
    | cons d rest =>
      unfold forGo at q
      split at q
      · rename_i hc'
        have hi' : ds[i]? = some d := by
          have := congrArg List.head? hr
          rw [List.head?_drop] at this
          exact this.symm
        have hlt : i < ds.length := (List.getElem?_eq_some_iff.mp hi').1
        obtain ⟨hgo, _⟩ := hJ ρ h H ds R x (chk_items e0 hc')
        obtain ⟨g1, g2⟩ := hgo i d hi'
        refine .inr ⟨g1, fun σ H => ∃ σd h ρ, SRel X.K ρ H σ σd ∧ Rel X.K ρ h H ∧ Ext ρ1 H1 ρ H ∧ Sat X.K w ρ H (forGo (fun h => it.chk ds h) ft g rest σd h) (fun fl _ ρ' H' => EndOk X.K ρ' H' D fl), ?_, ?_⟩
        · rintro σ' H' ⟨σd', h', ρ', s', R', x', q'⟩
          refine ⟨rest.length, by rw [hm]; exact Nat.lt_succ_self _, rest, σd', h', ρ', ?_, rfl, hlt, s', R', x', q'⟩
          have := congrArg List.tail hr
          rw [List.tail_drop] at this
          exact this
        · intro v H' y
          obtain ⟨ρ', R', x', rv⟩ := g2 v H' y
          refine hg _ _ _ _ _ _ _ _ (s.mono R x') R' rv ((q.later x').bind.imp ?_)
          intro σ1 h2 ρ2 H2 R2 x2 q2 σ' s' _
          refine hb _ _ _ _ _ _ s' R2 (q2.bind.imp ?_)
          intro fl h3 ρ3 H3 R3 x3 q3
          have x4 : Ext ρ1 H1 ρ3 H3 := x.trans (x'.trans (x2.trans x3))
          cases fl with
          | nx σ2 => exact fun σ'' s'' => ⟨σ2, h3, ρ3, s'', R3, x4, q3⟩
          | ct σ2 => exact fun σ'' s'' => ⟨σ2, h3, ρ3, s'', R3, x4, q3⟩
          | bk σ2 => exact fun σ'' s'' => q3.now R3 _ s''
          | rt d => exact fun v r => q3.now R3 v r
      · exact q.elim
  · exact q1.elim
end
end Sm

/-! SmF: comprehensions, the small heap swept, calls of defs. -/
namespace Sm
open PySem PySem.Spec PyProof.Rows L2

/-! ### comprehensions -/
def wipeD (σ : Sg) : List Nat → Sg
  | [] => σ
  | v :: vs => (wipeD σ vs).set v none
theorem wipeD_length (σ : Sg) : ∀ vs : List Nat, (wipeD σ vs).length = σ.length
  | [] => rfl
  | v :: vs => by unfold wipeD; rw [List.length_set, wipeD_length σ vs]
theorem wipeD_some {σ : Sg} {i : Nat} {x : D} : ∀ {vs : List Nat}, (wipeD σ vs)[i]? = some (some x) → σ[i]? = some (some x) ∧ i ∉ vs
  | [], h => ⟨h, by simp⟩
  | v :: vs, h => by
    unfold wipeD at h
    by_cases hi : v = i
    · subst hi
      by_cases hv : v < (wipeD σ vs).length
      · rw [List.getElem?_set_self hv] at h; cases h
      · rw [List.getElem?_eq_none (by simpa using hv)] at h; cases h
    · rw [List.getElem?_set_ne hi] at h
      obtain ⟨h1, h2⟩ := wipeD_some h
      exact ⟨h1, by simp only [List.mem_cons, not_or]; exact ⟨fun e => hi e.symm, h2⟩⟩
theorem SRel.wipe {K : PySem.W.Frag} {ρ : List Addr} {H : Hp} {σ : L2.St} {σd : Sg} (s : SRel K ρ H σ σd) (vs : List Nat) : SRel K ρ H (L2.wipe σ vs) (wipeD σd vs) := by
  refine ⟨by rw [wipe_length, wipeD_length, s.len], fun i d e => ?_⟩
  obtain ⟨h1, h2⟩ := wipeD_some e
  obtain ⟨v, h3, h4⟩ := s.at_ i d h1
  exact ⟨v, by rw [wipe_out h2]; exact h3, h4⟩
theorem wipe_get {σ : L2.St} {i : Nat} : ∀ {vs : List Nat}, i ∈ vs → (L2.wipe σ vs)[i]? = (σ[i]?).map fun _ => none
  | [], h => by cases h
  | v :: vs, h => by
    unfold L2.wipe
    by_cases hi : v = i
    · subst hi
      rw [List.getElem?_set]
      simp only [if_true, wipe_length]
      by_cases hv : v < σ.length
      · rw [if_pos hv, List.getElem?_eq_getElem hv]; rfl
      · rw [if_neg hv, List.getElem?_eq_none (by omega)]; rfl
    · rw [List.getElem?_set_ne hi]
      rcases List.mem_cons.mp h with e | e
      · exact absurd e.symm hi
      · exact wipe_get e
/-- two states that differ at most at vs are one when these are forgotten -/
theorem wipe_eq {σ σ' : L2.St} {vs js : List Nat} (hl : σ'.length = σ.length) (hj : ∀ j ∈ js, j ∈ vs) (h : ∀ i, i ∉ js → σ'[i]? = σ[i]?) : L2.wipe σ' vs = L2.wipe σ vs := by
  apply List.ext_getElem?
  intro i
  by_cases hi : i ∈ vs
  · rw [wipe_get hi, wipe_get hi]
    by_cases hb : i < σ.length
    · rw [List.getElem?_eq_getElem hb, List.getElem?_eq_getElem (by omega)]; rfl
    · rw [List.getElem?_eq_none (by omega), List.getElem?_eq_none (by omega)]
  · rw [wipe_out hi, wipe_out hi]
    exact h i fun m => hi (hj i m)
theorem wipe_wipe {σ : L2.St} {vs : List Nat} : L2.wipe (L2.wipe σ vs) vs = L2.wipe σ vs :=
  wipe_eq (js := vs) (wipe_length _ _) (fun _ h => h) fun i hi => wipe_out hi

section
variable {X : Cx} {w : XK} {a b c e o i : Expr} {es rest : List Expr} {fa fb fc f fo fi : FE} {ga gb : FT} {fl fl' : FA} {pos p : Pos} {st : Stmt} {sts : List Stmt} {g g' : FS}
/-- the tests of a clause -/
def OkTs (X : Cx) (w : XK) (ifs : List Expr) (f : FT) : Prop := ∀ (σd : Sg) (h : MH) (ρ : List Addr) (σ : L2.St) (H : Hp) (Q : Bool → Hp → Prop), SRel X.K ρ H σ σd → Rel X.K ρ h H →
  Sat X.K w ρ H (f σd h) (fun b _ _ H' => Q b H') → ∀ pins s, Inv X pins σ H s →
    wpAny (model X.prog X.w) X.A (forIn ifs true fun c r => if r = true then do let ok ← isTrue c X.env (eval c X.env); pure (ForInStep.yield ok) else pure (ForInStep.yield r)) (TP X pins σ Q) X.xe s
def fYes : FT := fun _ h => .ok true h
theorem r_ts0 : OkTs X w [] fYes := fun _ _ _ _ _ _ s R q pins s' I => pts_nil.run pins s' _ _ _ I (q.now R)
theorem r_ts1 (h : OkT X w c ga) : OkTs X w [c] ga := fun _ _ _ _ _ _ s R q pins s' I => (pts_one pT).run pins s' _ _ _ I (h _ _ _ _ _ _ s R q)
abbrev wNo : XK := fun _ _ _ => False
/-- the block of a comprehension -/
abbrev Blk (X : Cx) (scope : Scope) (s : Shared) (H : Hp) (C : Addr) (cl : List (Str × Addr)) (fp : List Addr) : Cx := X.blk s H scope (compEnvC scope cl C X.env) fp
def noX {α : Type} : Res α → Res α
  | .exc _ _ _ => .err
  | r => r
@[simp] theorem noX_ok {α : Type} (a : α) (h : MH) : noX (.ok a h) = .ok a h := rfl
@[simp] theorem noX_err {α : Type} : noX (.err : Res α) = .err := rfl
def lcGo (chk : MH → Bool) (tgt : FG) (tst : FT) (elt : FE) (σ0 : Sg) : List D → List D → MH → Res (List D)
  | [], acc, h => if chk h = true then .ok acc h else .err
  | d :: ds, acc, h => if chk h = true then (noX (tgt d σ0 h)).bind fun σ1 h1 => (noX (tst σ1 h1)).bind fun b h2 => if b = true then (noX (elt σ1 h2)).bind fun v h3 => lcGo chk tgt tst elt σ0 ds (acc ++ [v]) h3 else lcGo chk tgt tst elt σ0 ds acc h2
    else .err
def lcEnd (vs : List D) (h : MH) : Res D := .ok (.lst h.length) (h ++ [.lst vs])
def fLc (own : List Nat) (fi : FI) (tgt : FG) (tst : FT) (elt : FE) : FE := fun σ h => (fi σ h).bind fun it h1 => match it.items h1 with
  | some ds => if ds.length ≤ 1000000 then (lcGo (fun h => it.chk ds h) tgt tst elt (wipeD σ own) ds [] h1).bind lcEnd else .err
  | none => .err
def bG (X : Cx) (scope : Scope) (tg : Expr) : TG := fun v σ H Q => ∀ s0 H0 C cl fp, tG (Blk X scope s0 H0 C cl fp) tg v σ H Q
def bT (X : Cx) (scope : Scope) (ifs : List Expr) : TT := fun σ H Q => ∀ s0 H0 C cl fp pins s, Inv (Blk X scope s0 H0 C cl fp) pins σ H s →
  wpAny (model (Blk X scope s0 H0 C cl fp).prog (Blk X scope s0 H0 C cl fp).w) (Blk X scope s0 H0 C cl fp).A (forIn ifs true fun c r => if r = true then do let ok ← isTrue c (Blk X scope s0 H0 C cl fp).env (eval c (Blk X scope s0 H0 C cl fp).env); pure (ForInStep.yield ok) else pure (ForInStep.yield r)) (TP (Blk X scope s0 H0 C cl fp) pins σ Q) (Blk X scope s0 H0 C cl fp).xe s
def bE (X : Cx) (scope : Scope) (elt : Expr) : TE := fun σ H Q => ∀ s0 H0 C cl fp, tE (Blk X scope s0 H0 C cl fp) elt σ H Q
theorem lc_read {elt tg iter : Expr} {ifs : List Expr} {scope : Scope} {own : List Nat} {js : List Nat} {fi : FI} {ft : FG} {tst : FT} {fe : FE} {σd : Sg} {h : MH} {ρ : List Addr} {σ : L2.St} {H : Hp} {Q : VK}
    (hi : OkI X w tg iter fi) (hg : ∀ s H C cl fp, OkG (Blk X scope s H C cl fp) wNo tg js ft) (ht : ∀ s H C cl fp, OkTs (Blk X scope s H C cl fp) wNo ifs tst) (he : ∀ s H C cl fp, OkE (Blk X scope s H C cl fp) wNo elt fe)
    (hj : ∀ j ∈ js, j ∈ own) (s : SRel X.K ρ H σ σd) (R : Rel X.K ρ h H) (q : Sat X.K w ρ H (fLc own fi ft tst fe σd h) (fun d _ ρ' H' => ∀ v, Rep X.K ρ' H' v d → Q v H')) :
    tLc (tI X tg iter) (bG X scope tg) (bT X scope ifs) (bE X scope elt) own σ H Q := by
  have R0 := R
  refine hi _ _ _ _ _ _ s R (q.bind.imp ?_)
  intro it h1 ρ1 H1 R1 x1 q1 J hJ D hD
  split at q1
  · rename_i ds e0
    split at q1
    · rename_i hds
      generalize hP : (fun (d : Sm.D) (_ : MH) (ρ' : List Addr) (H' : Hp) => ∀ v, Rep X.K ρ' H' v d → Q v H') = P at q1
      refine ⟨fun i m H => ∃ rest acc accV h ρ, rest = ds.drop i ∧ m = rest.length ∧ i ≤ ds.length ∧ acc.length ≤ i ∧ Rel X.K ρ h H ∧ Ext ρ1 H1 ρ H ∧ H D = some (.lst accV) ∧ RepL X.K ρ H accV acc ∧ D ∉ ρ ∧
          Sat X.K w ρ1 H1 ((lcGo (fun h => it.chk ds h) ft tst fe (wipeD σd own) rest acc h).bind lcEnd) P,
        ⟨ds.length, ds, [], [], h1, ρ1, rfl, rfl, Nat.zero_le _, Nat.le_refl _, R1.upd hD, Ext.upd R1 hD, upd_same, .nil, R1.freshNot hD, q1⟩, ?_⟩
      rintro i m H ⟨rest, acc, accV, h, ρ, hr, hm, hle, hal, R, x, hA, rA, nD, q⟩
      cases rest with
      | nil =>
        unfold lcGo at q
        split at q
        · rename_i hc'
          have hl : i = ds.length := by
            have := List.drop_eq_nil_iff.mp hr.symm
            omega
          obtain ⟨_, hst⟩ := hJ ρ h H ds R x (chk_items e0 hc')
          rw [← hl] at hst
          refine .inl ⟨hst, ?_⟩
          rw [← hP] at q
          refine q (ρ ++ [D]) H (R.adopt nD hA rA) ⟨?_, fun a h1 h2 => ?_, x.oth⟩ _ (.lst (by rw [← R.len, List.getElem?_append_right (Nat.le_refl _), Nat.sub_self]; rfl))
          · obtain ⟨r, er⟩ := x.pre
            exact ⟨r ++ [D], by rw [er, List.append_assoc]⟩
          · rcases List.mem_append.mp h1 with m' | m'
            · exact x.new a m' h2
            · rw [List.mem_singleton.mp m']; exact hD
        · exact q.elim
      | cons d rest =>
        unfold lcGo at q
        split at q
        · rename_i hc'
          have hi' : ds[i]? = some d := by
            have := congrArg List.head? hr
            rw [List.head?_drop] at this
            exact this.symm
          have hlt : i < ds.length := (List.getElem?_eq_some_iff.mp hi').1
          have htl : rest = ds.drop (i + 1) := by
            have := congrArg List.tail hr
            rw [List.tail_drop] at this
            exact this
          obtain ⟨hgo, _⟩ := hJ ρ h H ds R x (chk_items e0 hc')
          obtain ⟨g1, g2⟩ := hgo i d hi'
          refine .inr ⟨g1, fun H => ∃ acc accV h ρ, acc.length ≤ i + 1 ∧ Rel X.K ρ h H ∧ Ext ρ1 H1 ρ H ∧ H D = some (.lst accV) ∧ RepL X.K ρ H accV acc ∧ D ∉ ρ ∧
            Sat X.K w ρ1 H1 ((lcGo (fun h => it.chk ds h) ft tst fe (wipeD σd own) rest acc h).bind lcEnd) P, ?_, ?_⟩
          · rintro H' ⟨acc', accV', h', ρ', z1, z2, z3, z4, z5, z6, z7⟩
            exact ⟨rest.length, by rw [hm]; exact Nat.lt_succ_self _, rest, acc', accV', h', ρ', htl, rfl, hlt, z1, z2, z3, z4, z5, z6, z7⟩
          · intro v H' y
            obtain ⟨ρ', R', x', rv⟩ := g2 v H' y
            have hA' : H' D = some (.lst accV) := x'.oth D _ nD hA
            have nD' : D ∉ ρ' := x'.stillOut nD hA
            have s0 : SRel X.K ρ' H' (L2.wipe σ own) (wipeD σd own) := ((s.mono R0 (x1.trans (x.trans x')))).wipe own
            intro b0 bH bC bcl bfp
            refine hg b0 bH bC bcl bfp _ _ _ _ _ _ _ _ s0 R' rv ?_
            cases e1 : ft d (wipeD σd own) h with
            | err => rw [e1] at q; exact q.elim
            | exc c fs h' => rw [e1] at q; exact q.elim
            | ok σ1 h2 =>
              rw [e1] at q
              simp only [noX_ok, bind_ok] at q
              intro ρ2 H2 R2 x2 σ' s' ch
              refine ⟨?_, ?_⟩
              · have := wipe_eq (σ := L2.wipe σ own) (σ' := σ') (vs := own) (js := js) ch.len hj ch.same
                rw [this, wipe_wipe]
              intro b0 bH bC bcl bfp bp bs bI
              refine ht b0 bH bC bcl bfp _ _ _ _ _ _ s' R2 ?_ bp bs bI
              cases e2 : tst σ1 h2 with
              | err => rw [e2] at q; exact q.elim
              | exc c fs h' => rw [e2] at q; exact q.elim
              | ok b h3 =>
                rw [e2] at q
                simp only [noX_ok, bind_ok] at q
                intro ρ3 H3 R3 x3
                have x13 : Ext ρ1 H1 ρ3 H3 := x.trans (x'.trans (x2.trans x3))
                have hA2 := x2.oth D _ nD' hA'
                have nD2 := x2.stillOut nD' hA'
                have hA3 := x3.oth D _ nD2 hA2
                have nD3 := x3.stillOut nD2 hA2
                have rA3 : RepL X.K ρ3 H3 accV acc := ((rA.mono R x').mono R' x2).mono R2 x3
                cases b with
                | false =>
                  simp only [Bool.false_eq_true, if_false] at q ⊢
                  exact ⟨acc, accV, h3, ρ3, by omega, R3, x13, hA3, rA3, nD3, q⟩
                | true =>
                  simp only [if_true] at q ⊢
                  intro b0 bH bC bcl bfp
                  refine he b0 bH bC bcl bfp _ _ _ _ _ _ (s'.mono R2 x3) R3 ?_
                  cases e3 : fe σ1 h3 with
                  | err => rw [e3] at q; exact q.elim
                  | exc c fs h' => rw [e3] at q; exact q.elim
                  | ok z h4 =>
                    rw [e3] at q
                    simp only [noX_ok, bind_ok] at q
                    intro ρ4 H4 R4 x4 u ru
                    have hA4 := x4.oth D _ nD3 hA3
                    have nD4 := x4.stillOut nD3 hA3
                    have rA4 : RepL X.K ρ4 H4 accV acc := rA3.mono R3 x4
                    refine ⟨accV, hA4, by rw [rA4.length]; exact lt_line (by omega), ?_⟩
                    refine ⟨acc ++ [z], accV ++ [u], h4, ρ4, by rw [List.length_append]; simp; omega, R4.outer nD4 hA4, ?_, upd_same, ?_, nD4, q⟩
                    · have x14 := x13.trans x4
                      exact ⟨x14.pre, x14.new, fun a o h1 h2 => by rw [upd_ne (ne_of_none h2 hD)]; exact x14.oth a o h1 h2⟩
                    · exact (rA4.append (.cons ru .nil)).mono' (fun _ _ q => sqt_lst hA4 q) (fun _ _ q => sqf_lst hA4 q) fun _ _ z => z
        · exact q.elim
    · exact q1.elim
  · exact q1.elim
theorem r_lc {elt tg iter : Expr} {ifs : List Expr} {scope : Scope} (own : List (Str × Nat)) {js : List Nat} {fi : FI} {ft : FG} {tst : FT} {fe : FE} (hc : X.calm = true) (hN : X.N.Nodup) (hi : OkI X w tg iter fi)
    (hg : ∀ s H C cl fp, OkG (Blk X scope s H C cl fp) wNo tg js ft) (ht : ∀ s H C cl fp, OkTs (Blk X scope s H C cl fp) wNo ifs tst) (he : ∀ s H C cl fp, OkE (Blk X scope s H C cl fp) wNo elt fe)
    (ok : BlkOk X.N X.env.scope scope own := by exact blkOk_by (by kernel_rfl)) (hj : ∀ j ∈ js, j ∈ own.map (·.2) := by decide) (hs : ∀ x, foldedSetIterable iter X.env x = pure x := by intro _; rfl) :
    OkE X w (.ListComp elt [⟨tg, iter, ifs, 0⟩] scope pos) (fLc (own.map (·.2)) fi ft tst fe) := by
  intro σd h ρ σ H Q s R q
  exact (pe_lc (g := bG X scope tg) (tt := bT X scope ifs) (te := bE X scope elt) hc hN pI ok (fun s0 H0 C cl fp => ⟨fun pins s σ H v u Q I r q => q s0 H0 C cl fp pins s u I r⟩) (fun s0 H0 C cl fp => ⟨fun pins s σ H Q I q => q s0 H0 C cl fp pins s I⟩)
    (fun s0 H0 C cl fp => ⟨fun pins s σ H Q I q => q s0 H0 C cl fp pins s I⟩) hs).to (lc_read hi hg ht he hj s R q)
end

/-! ### the small heap swept -/
mutual
def D.cl (n : Nat) : D → Bool
  | .lst k => decide (k < n)
  | .tup ds => D.clL n ds
  | .fls ds => D.clL n ds
  | _ => true
def D.clL (n : Nat) : List D → Bool
  | [] => true
  | d :: ds => D.cl n d && D.clL n ds
end
def HE.cl (n : Nat) : HE → Bool
  | .lst ds => D.clL n ds
def clH (n : Nat) (h : MH) : Bool := h.all (HE.cl n)
/-- behind an expression: what only it made is forgotten, a new list is put at the end -/
def gcR (n : Nat) (r : Res D) : Res D := match r with
  | .ok d h => if h.length = n then .ok d h else if clH n (h.take n) = true then
      if d.cl n = true then .ok d (h.take n) else match d with
        | .lst l => match h[l]? with
          | some (.lst ds) => if n ≤ l ∧ D.clL n ds = true then .ok (.lst n) (h.take n ++ [.lst ds]) else .ok d h
          | none => .ok d h
        | _ => .ok d h
    else .ok d h
  | .exc c fs h => if clH n (h.take n) = true ∧ (fs.all fun f => f.2.cl n) = true then .exc c fs (h.take n) else .exc c fs h
  | .err => .err
section
variable {K : PySem.W.Frag} {ρ ρ' : List Addr} {H H' : Hp} {h : MH} {n : Nat}
mutual
theorem Rep.cut (hn : ρ.length = n) (hp : ∃ r, ρ' = ρ ++ r) : ∀ {d : D} {v : V}, d.cl n = true → Rep K ρ' H v d → Rep K ρ H v d
  | .non, _, _, .non => .non
  | .bl _, _, _, .bl b => .bl b
  | .int _, _, _, .int b => .int b
  | .str _, _, _, .str b => .str b
  | .tup _, _, c, .tup q r => .tup q (RepL.cut hn hp c r)
  | .fls _, _, c, .fls q r => .fls q (RepL.cut hn hp c r)
  | .lst k, _, c, .lst q => .lst (by
    obtain ⟨r, e⟩ := hp
    have hk : k < ρ.length := by rw [hn]; exact of_decide_eq_true c
    rw [e, List.getElem?_append_left hk] at q
    exact q)
theorem RepL.cut (hn : ρ.length = n) (hp : ∃ r, ρ' = ρ ++ r) : ∀ {ds : List D} {vs : List V}, D.clL n ds = true → RepL K ρ' H vs ds → RepL K ρ H vs ds
  | [], _, _, .nil => .nil
  | _ :: _, _, c, .cons a r => by
    obtain ⟨c1, c2⟩ := Bool.and_eq_true_iff.mp c
    exact .cons (Rep.cut hn hp c1 a) (RepL.cut hn hp c2 r)
end
theorem Rel.cut (hn : ρ.length = n) (hp : ∃ r, ρ' = ρ ++ r) (R : Rel K ρ' h H) (c : clH n (h.take n) = true) : Rel K ρ (h.take n) H := by
  obtain ⟨r, e⟩ := hp
  have hlen : ρ.length ≤ ρ'.length := by rw [e, List.length_append]; omega
  refine ⟨by rw [List.length_take, ← R.len]; omega, ?_, fun i en a h1 h2 => ?_⟩
  · have := R.nd
    rw [e, List.nodup_append] at this
    exact this.1
  · have hi : i < n := by rw [← hn]; exact (List.getElem?_eq_some_iff.mp h2).1
    rw [List.getElem?_take_of_lt hi] at h1
    have h2' : ρ'[i]? = some a := by rw [e, List.getElem?_append_left (by omega)]; exact h2
    have q := R.ent i en a h1 h2'
    have cl := List.all_eq_true.mp c en (by
      have : (h.take n)[i]? = some en := by rw [List.getElem?_take_of_lt hi]; exact h1
      exact List.mem_of_getElem? this)
    cases en with
    | lst ds =>
      obtain ⟨xs, q1, q2⟩ := q
      exact ⟨xs, q1, RepL.cut hn ⟨r, e⟩ cl q2⟩
theorem Ext.cut (hn : ρ.length = n) (x : Ext ρ H ρ' H') : Ext ρ H ρ H' := ⟨⟨[], (List.append_nil _).symm⟩, fun _ h1 h2 => absurd h1 h2, x.oth⟩
theorem gc_ok {w : XK} {r : Res D} {Q : VK} (R : Rel K ρ h H) (q : Sat K w ρ H (gcR h.length r) (fun d _ ρ' H' => ∀ v, Rep K ρ' H' v d → Q v H')) : Sat K w ρ H r (fun d _ ρ' H' => ∀ v, Rep K ρ' H' v d → Q v H') := by
  have hn := R.len
  cases r with
  | ok d h1 =>
    intro ρ1 H1 R1 x1 v rv
    simp only [gcR] at q
    split at q
    · exact q ρ1 H1 R1 x1 v rv
    split at q
    · rename_i c
      split at q
      · rename_i cd
        exact q ρ H1 (R1.cut hn x1.pre c) (x1.cut hn) v (rv.cut hn x1.pre cd)
      · split at q
        · rename_i l _
          split at q
          · rename_i ds e
            split at q
            · rename_i hl
              obtain ⟨a, xs, rfl, ha, hx, rx⟩ := mut_of R1 rv e
              have na : a ∉ ρ := fun m => by
                obtain ⟨r, er⟩ := x1.pre
                obtain ⟨j, hj, ej⟩ := List.getElem_of_mem m
                have hj' : j < ρ1.length := by rw [er, List.length_append]; omega
                have e1 : ρ1[j] = a := by
                  have : ρ1[j]? = some a := by rw [er, List.getElem?_append_left hj, List.getElem?_eq_getElem hj, ej]
                  exact (List.getElem?_eq_some_iff.mp this).2
                obtain ⟨hl', e2⟩ := List.getElem?_eq_some_iff.mp ha
                have := (List.getElem_inj R1.nd).mp (e1.trans e2.symm)
                omega
              have R2 := (R1.cut hn x1.pre c).adopt na hx (RepL.cut hn x1.pre hl.2 rx)
              have len' : (h1.take h.length).length = ρ.length := (R1.cut hn x1.pre c).len.symm
              refine q (ρ ++ [a]) H1 R2 ⟨⟨[a], rfl⟩, fun b m1 m2 => ?_, x1.oth⟩ _ (.lst (by rw [← hn, List.getElem?_append_right (Nat.le_refl _), Nat.sub_self]; rfl))
              rcases List.mem_append.mp m1 with m | m
              · exact absurd m m2
              · rw [List.mem_singleton.mp m]
                exact x1.new a (List.mem_of_getElem? ha) na
            · exact q ρ1 H1 R1 x1 v rv
          · exact q ρ1 H1 R1 x1 v rv
        · exact q ρ1 H1 R1 x1 v rv
    · exact q ρ1 H1 R1 x1 v rv
  | exc c fs h1 =>
    intro ρ1 H1 cls dx R1 x1 z
    simp only [gcR] at q
    split at q
    · rename_i hc
      refine q ρ H1 cls dx (R1.cut hn x1.pre hc.1) (x1.cut hn) ?_
      obtain ⟨z1, d, ys, z2, z3, z4⟩ := z
      refine ⟨z1, d, ys, z2, z3, fun f v e => ?_⟩
      obtain ⟨y, e1, e2⟩ := z4 f v e
      refine ⟨y, e1, e2.cut hn x1.pre ?_⟩
      have : (f, v) ∈ fs := PySem.mem_of_lookup e
      exact List.all_eq_true.mp hc.2 (f, v) this
    · exact q ρ1 H1 cls dx R1 x1 z
  | err => exact q
end
section
variable {X : Cx} {w : XK} {a b c e o : Expr} {es rest : List Expr} {fa fb fc f fo : FE} {fl fl' : FA} {pos p : Pos}
def fGc (f : FE) : FE := fun σ h => gcR h.length (f σ h)
theorem r_gc (he : OkE X w e f) : OkE X w e (fGc f) := fun _ _ _ _ _ _ s R q => he _ _ _ _ _ _ s R (gc_ok R q)

/-- name = [..], the name a plain local -/
theorem r_setLc (i : Nat) {y : Str} {py spos : Pos} {elt tg iter : Expr} {ifs : List Expr} {scope : Scope} (own : List (Str × Nat)) {js : List Nat} {fi : FI} {ft : FG} {tst : FT} {fe : FE} (hc : X.calm = true) (hN : X.N.Nodup) (hi : OkI X w tg iter fi)
    (hg : ∀ s H C cl fp, OkG (Blk X scope s H C cl fp) wNo tg js ft) (ht : ∀ s H C cl fp, OkTs (Blk X scope s H C cl fp) wNo ifs tst) (he : ∀ s H C cl fp, OkE (Blk X scope s H C cl fp) wNo elt fe)
    (hy : X.N[i]? = some y := by rfl) (hyl : X.env.scope.names.lookup y = some .local := by rfl) (hsw : swapsWith (.ListComp elt [⟨tg, iter, ifs, 0⟩] scope pos) (some (.Name y py)) spos.line X.env = pure true := by exact sw_true rfl rfl rfl (by decide +kernel))
    (ok : BlkOk X.N X.env.scope scope own := by exact blkOk_by (by kernel_rfl)) (hj : ∀ j ∈ js, j ∈ own.map (·.2) := by decide) (hs : ∀ x, foldedSetIterable iter X.env x = pure x := by intro _; rfl) :
    OkS X w (.Assign [.Name y py] (.ListComp elt [⟨tg, iter, ifs, 0⟩] scope pos) spos) (fSet i (fGc (fLc (own.map (·.2)) fi ft tst fe))) := by
  intro σd h ρ σ H D s R q
  refine (ps_setLc (g := bG X scope tg) (tt := bT X scope ifs) (te := bE X scope elt) hc hN hy hyl hsw pI ok (fun s0 H0 C cl fp => ⟨fun pins s σ H v u Q I r q => q s0 H0 C cl fp pins s u I r⟩) (fun s0 H0 C cl fp => ⟨fun pins s σ H Q I q => q s0 H0 C cl fp pins s I⟩)
    (fun s0 H0 C cl fp => ⟨fun pins s σ H Q I q => q s0 H0 C cl fp pins s I⟩) hs).to ?_
  refine lc_read hi hg ht he hj s R (gc_ok R (q.bind.imp ?_))
  intro d h1 ρ1 H1 R1 x1 q1 v rv
  exact q1.now R1 _ ((s.mono R x1).set rv)
/-! ### defs -/
def spD (K : PySem.W.Frag) (n : Nat) (m : DCl) : Sp := fun vs H Q E => vs.length = n ∧ ∃ ds ρ h, RepL K ρ H vs ds ∧ Rel K ρ h H ∧ Sat K E ρ H (m ds h) (fun d _ ρ' H' => ∀ v, Rep K ρ' H' v d → Q v H')
def fCall (n : Nat) (m : DCl) (fl : FA) : FE := fun σ h => (fl σ h).bind fun ds h1 => if ds.length = n then m ds h1 else .err
/-- the module's def x: what it does is told by m, at level k -/
def BindsA (fd : FuncData) (ps : List Str) : Prop := ∀ (s : Shared) (us : List Value), us.length = ps.length → BindsTo s fd ⟨us, []⟩ (ps.zip us)
theorem BindsA.to {K : PySem.W.Frag} {fd : FuncData} {ps : List Str} (h : BindsA fd ps) : Binds K fd ps [] := fun s us _ hl => by
  rw [List.append_nil] at hl ⊢
  exact h s us hl
/-- the function object -/
def FdAt (K : PySem.W.Frag) (f : Addr) (fd : FuncData) : Prop := ∃ oc od osl, K.lookup f = some ⟨oc, od, .func fd, osl⟩
theorem FdAt.uniq {K : PySem.W.Frag} {f : Addr} {fd fd' : FuncData} (h : FdAt K f fd) (h' : FdAt K f fd') : fd = fd' := by
  obtain ⟨_, _, _, e⟩ := h
  obtain ⟨_, _, _, e'⟩ := h'
  rw [e] at e'
  cases e'
  rfl
def Has (P : Program) (w : World) (K : PySem.W.Frag) (mg : Str → Option Value) (base : Heap) (CX : CXT) (x : Str) (ps : List Str) (k : Nat) (m : DCl) : Prop :=
  ∃ fa fd, mg x = some (.ref fa) ∧ PySem.W.keepIn K (.ref fa) = true ∧ BindsA fd ps ∧ FdAt K fa fd ∧ FnOk P w K mg base CX k fa fd ps (spD K ps.length m)
theorem r_call {CX : CXT} {k n : Nat} {ps : List Str} {m : DCl} {x : Str} (F : Has X.prog X.w X.K X.mg X.base CX x ps k m) (hr : Room k X.A) (hx : Passes CX X w) (hl : OkA X w (e :: es) fl)
    (hlen : n = ps.length := by rfl) (hg : Gl X x := by rfl) (hdb : (x == ("__debug__" : Str)) = false := by decide) (he : starEach (e :: es) X.env = (false, eval e X.env) :: starEach es X.env := by rfl)
    (hpl : (backTo pos (starEach es X.env)).any (·.1) = false := by rfl) : OkE X w (.Call (.Name x p) (e :: es) [] pos) (fCall n m fl) := by
  subst hlen
  intro σd h ρ σ H Q s R q
  obtain ⟨fa, fd, hm, hk, hb, _, F⟩ := F
  refine (pe_call F hr hg hm hk hb.to .nil hx pA hdb he hpl).to (hl _ _ _ _ _ _ s R (q.bind.imp ?_))
  intro ds h1 ρ1 H1 R1 x1 q1 vs rvs
  split at q1
  · rename_i hn
    exact ⟨by rw [List.append_nil, rvs.length]; exact hn, ds, ρ1, h1, by rw [List.append_nil]; exact rvs, R1, q1⟩
  · exact q1.elim
theorem r_call0 {CX : CXT} {k : Nat} {m : DCl} {x : Str} (F : Has X.prog X.w X.K X.mg X.base CX x [] k m) (hr : Room k X.A) (hx : Passes CX X w)
    (hg : Gl X x := by rfl) (hdb : (x == ("__debug__" : Str)) = false := by decide) : OkE X w (.Call (.Name x p) [] [] pos) (fCall 0 m fNil) := by
  intro σd h ρ σ H Q s R q
  obtain ⟨fa, fd, hm, hk, hb, _, F⟩ := F
  exact (pe_call0 F hr hg hm hk hb.to .nil hx hdb).to ⟨rfl, [], ρ, h, .nil, R, q⟩
end

/-! ### a def by its body -/
def retR : Res Fl → Res D
  | .ok (.nx _) h => .ok .non h
  | .ok (.rt d) h => .ok d h
  | .ok _ _ => .err
  | .exc c fs h => .exc c fs h
  | .err => .err
def startD (n : Nat) (ds : List D) : Sg := ds.map some ++ List.replicate (n - ds.length) none
def mOf (n : Nat) (fb : FS) : DCl := fun ds h => gcR h.length (retR (fb (startD n ds) h))
theorem srel_start {K : PySem.W.Frag} {ρ : List Addr} {H : Hp} {N : List Str} {vs : List V} {ds : List D} (r : RepL K ρ H vs ds) : SRel K ρ H (L2.start N vs) (startD N.length ds) := by
  refine ⟨by unfold L2.start startD; simp [r.length], fun i d e => ?_⟩
  unfold startD at e
  unfold L2.start
  by_cases hi : i < ds.length
  · rw [List.getElem?_append_left (by simpa using hi), List.getElem?_map] at e
    rw [List.getElem?_append_left (by simpa [r.length] using hi), List.getElem?_map]
    cases q : ds[i]? with
    | none => rw [q] at e; cases e
    | some d' =>
      rw [q] at e
      cases e
      obtain ⟨v, h1, h2⟩ := r.get q
      exact ⟨v, by rw [h1]; rfl, h2⟩
  · rw [List.getElem?_append_right (by simpa using Nat.le_of_not_lt hi), List.getElem?_replicate] at e
    split at e <;> cases e
section
variable {P : Program} {w : World} {K : PySem.W.Frag} {mg : Str → Option Value} {base : Heap} {CX : CXT} {x qual : Str} {params : Arguments} {body : List Stmt} {scope : Scope} {f : Addr} {fd : FuncData} {N ps : List Str} {k : Nat}
/-- THE RULE: fb may hang on the arguments -/
theorem fn_ok (F : FunD K x qual params body scope [] [] f fd) (S : FnScope N ps scope) (m : DCl)
    (hbody : ∀ (cdv : Value) (A : Around) (outer : List Env) (s : Shared) (H : Hp) (E : XK), Room k (A.deeper (envOfC qual scope s.heap.objs.size f cdv)) → ∀ ds h, ds.length = ps.length → m ds h ≠ .err →
      ∃ fb, OkSs (cxOf CX P w K mg base N qual scope f cdv A outer s H E) E body fb ∧ mOf N.length fb ds h = m ds h) : FnOk P w K mg base CX (k + 1) f fd ps (spD K ps.length m) := by
  refine F.ok S (fun vs H Q E h => h.1) (fun cdv A outer s H vs Q E hr hsp => ?_)
  obtain ⟨hl, ds, ρ, h, rv, R, q⟩ := hsp
  have hne : m ds h ≠ .err := fun z => by rw [z] at q; exact q
  obtain ⟨fb, hok, e⟩ := hbody cdv A outer s H E hr ds h (by rw [← rv.length]; exact hl) hne
  rw [← e] at q
  have q2 := gc_ok R q
  refine ⟨tSs _ body, pSs, hok _ _ _ _ _ _ (srel_start rv) R ?_⟩
  revert q2
  cases fb (startD N.length ds) h with
  | ok fl h1 =>
    cases fl with
    | nx σ1 => exact fun q2 ρ1 H1 R1 x1 σ' s' => q2 ρ1 H1 R1 x1 _ .non
    | rt d => exact fun q2 ρ1 H1 R1 x1 v r => q2 ρ1 H1 R1 x1 v r
    | bk σ1 => exact fun q2 => q2.elim
    | ct σ1 => exact fun q2 => q2.elim
  | exc c fs h1 => exact fun q2 => q2
  | err => exact fun q2 => q2
theorem fdAt_of (F : FunD K x qual params body scope [] [] f fd) : FdAt K f fd := by
  obtain ⟨oc, od, dV, kV, doc, pm, an, cdv, ct, osl, _, lk, _⟩ := F.ex
  exact ⟨oc, od, osl, lk⟩
/-- the plain rule -/
theorem has_of (g : mg x = some (.ref f)) (F : FunD K x qual params body scope [] [] f fd) (b : BindsA fd ps) (S : FnScope N ps scope) (fb : FS)
    (hok : ∀ (cdv : Value) (A : Around) (outer : List Env) (s : Shared) (H : Hp) (E : XK), Room k (A.deeper (envOfC qual scope s.heap.objs.size f cdv)) → OkSs (cxOf CX P w K mg base N qual scope f cdv A outer s H E) E body fb) :
    Has P w K mg base CX x ps (k + 1) (mOf N.length fb) :=
  ⟨f, fd, g, F.kp, b, fdAt_of F, fn_ok F S _ fun cdv A outer s H E hr ds h _ _ => ⟨fb, hok cdv A outer s H E hr, rfl⟩⟩
theorem Has.mono {m : DCl} {j : Nat} (h : Has P w K mg base CX x ps j m) (l : j ≤ k) : Has P w K mg base CX x ps k m :=
  let ⟨fa, fd, a, b, c, d, e⟩ := h; ⟨fa, fd, a, b, c, d, e.mono l⟩
/-- a def that calls itself: m by the depth that is left -/
theorem has_rec (g : mg x = some (.ref f)) (F : FunD K x qual params body scope [] [] f fd) (b : BindsA fd ps) (S : FnScope N ps scope) (fb : DCl → FS)
    (hok : ∀ (j : Nat) (m : DCl), Has P w K mg base CX x ps (k + j) m → ∀ (cdv : Value) (A : Around) (outer : List Env) (s : Shared) (H : Hp) (E : XK), Room (k + j) (A.deeper (envOfC qual scope s.heap.objs.size f cdv)) → OkSs (cxOf CX P w K mg base N qual scope f cdv A outer s H E) E body (fb m)) :
    ∀ d : Nat, Has P w K mg base CX x ps (k + d) (Nat.rec (fun _ _ => .err) (fun _ m => mOf N.length (fb m)) d) := by
  intro d
  induction d with
  | zero => exact ⟨f, fd, g, F.kp, b, fdAt_of F, ⟨fun vs H Q E h => h.1, fun A outer s H args us vs Q E _ _ _ _ hsp => by
      obtain ⟨_, ds, ρ, h, _, _, q⟩ := hsp
      exact q.elim⟩⟩
  | succ d ih => exact has_of g F b S _ (hok d _ ih)
theorem hu65 {A : Around} (hr : Room k A) : A.units + 65 < cLine := by have := hr.un; omega
end
theorem nat_rec_zero (fb : DCl → FS) (n : Nat) : (Nat.rec (fun _ _ => .err) (fun _ m => mOf n (fb m)) 0 : DCl) = fun _ _ => .err := rfl
/-- a def that calls itself, by depth -/
def mRec (n : Nat) (fb : DCl → FS) : Nat → DCl
  | 0 => fun _ _ => .err
  | d + 1 => mOf n (fb (mRec n fb d))
theorem mRec_eq (n : Nat) (fb : DCl → FS) : ∀ d, (Nat.rec (fun _ _ => .err) (fun _ m => mOf n (fb m)) d : DCl) = mRec n fb d
  | 0 => rfl
  | d + 1 => by
    show mOf n (fb _) = mOf n (fb _)
    rw [mRec_eq n fb d]
/-! ### what a body's calls may let out -/
theorem pass_0 {X : Cx} {E : XK} : Passes CX0 X E := fun _ _ _ _ _ _ _ h => h.elim
theorem own_any {CX : CXT} {P : Program} {w : World} {K : PySem.W.Frag} {mg : Str → Option Value} {base : Heap} {N : List Str} {qual : Str} {scope : Scope} {f : Addr} {cdv : Value} {A : Around} {outer : List Env} {s : Shared} {H : Hp} {E : XK} :
    PassesOwn (model (cxOf CX P w K mg base N qual scope f cdv A outer s H E).prog (cxOf CX P w K mg base N qual scope f cdv A outer s H E).w) (cxOf CX P w K mg base N qual scope f cdv A outer s H E).A (cxOf CX P w K mg base N qual scope f cdv A outer s H E).env (cxOf CX P w K mg base N qual scope f cdv A outer s H E).xe :=
  passes_of (X := cxOf CX P w K mg base N qual scope f cdv A outer s H E) rfl
/-- a constant of the module -/
def Cst (K : PySem.W.Frag) (mg : Str → Option Value) (x : Str) (d : D) : Prop := ∃ u v, mg x = some u ∧ RelV v u ∧ ∀ ρ H, Rep K ρ H v d
theorem r_cst {X : Cx} {w : XK} {x : Str} {d : D} {pos : Pos} (h : Cst X.K X.mg x d) (hg : Gl X x := by rfl) (hd : (x == ("__debug__" : Str)) = false := by decide) : OkE X w (.Name x pos) (fC d) := by
  obtain ⟨u, v, hm, r, hr⟩ := h
  exact r_glob hm r hr hg hd
/-- a def of the module, where it stands -/
def Lk (K : PySem.W.Frag) (mg : Str → Option Value) (x : Str) (st : Stmt) (ps : List Str) : Prop := ∃ f fd, mg x = some (.ref f) ∧ FunD K x x (defArgs st) (defBody st) (defScope st) [] [] f fd ∧ BindsA fd ps
/-- a test swept -/
def gcT (n : Nat) (r : Res Bool) : Res Bool := match r with
  | .ok b h => if h.length = n then .ok b h else if clH n (h.take n) = true then .ok b (h.take n) else .ok b h
  | r => r
theorem gct_ok {K : PySem.W.Frag} {ρ : List Addr} {H : Hp} {h : MH} {w : XK} {r : Res Bool} {Q : Bool → Hp → Prop} (R : Rel K ρ h H) (q : Sat K w ρ H (gcT h.length r) (fun b _ _ H' => Q b H')) : Sat K w ρ H r (fun b _ _ H' => Q b H') := by
  cases r with
  | ok b h1 =>
    intro ρ1 H1 R1 x1
    simp only [gcT] at q
    split at q
    · exact q ρ1 H1 R1 x1
    · split at q
      · rename_i c
        exact q ρ H1 (R1.cut R.len x1.pre c) (x1.cut R.len)
      · exact q ρ1 H1 R1 x1
  | exc c fs h1 => exact q
  | err => exact q
def fGcT (f : FT) : FT := fun σ h => gcT h.length (f σ h)
theorem r_gct {X : Cx} {w : XK} {e : Expr} {f : FT} (he : OkT X w e f) : OkT X w e (fGcT f) := fun _ _ _ _ _ _ s R q => he _ _ _ _ _ _ s R (gct_ok R q)
end Sm

/-! SmG: the head's facts with constants, the end. -/
namespace Sm
open PySem PySem.Spec PyProof.Rows L2
def obsC (n : Nat) (fa : List He.Fa) (fn : List He.DefD) (ex : PySem.W.Frag → Bool) (g : Addr → Option Obj) : He.AlD × Bool := (He.obsD fa fn (He.frG g (He.asD g n)), ex (He.frG g (He.asD g n)))
def hookC (n : Nat) (fa : List He.Fa) (fn : List He.DefD) (ex : PySem.W.Frag → Bool) : PySem.W.Hook where
  α := He.AlD × Bool
  obs := fun s => obsC n fa fn ex s.heap.get?
  val := fun _ => (He.valD fn, true)
  says := fun _ h => ∃ K : PySem.W.Frag, K.In h ∧ He.SaysD fa fn K ∧ ex K = true
  of := fun _ _ e => ⟨_, He.frG_in, congrArg Prod.fst e, congrArg Prod.snd e⟩
  keeps := fun _ _ _ ⟨K, hK, c⟩ k => ⟨K, PySem.W.Frag.In.keeps hK k, c⟩
theorem obsC_eq {n : Nat} {fa : List He.Fa} {fn : List He.DefD} {ex : PySem.W.Frag → Bool} {g : Addr → Option Obj} {s : Shared} (h : ∀ a, g a = s.heap.get? a) : obsC n fa fn ex g = (hookC n fa fn ex).obs s := by
  have e : g = s.heap.get? := funext h
  rw [e] <;> rfl
/-- a def's place by the head's facts -/
theorem lk_of {K : PySem.W.Frag} {h : Heap} {mg : Str → Option Value} {x : Str} {st : Stmt} {ps : List Str} (X : K.In h) (G : h.Ns mainGlobals mg) (g : (He.Fa.glo x).ok K = true)
    (F : ∃ fd, FunD K x x (defArgs st) (defBody st) (defScope st) [] [] (He.ga K x) fd)
    (hb : ∀ (kV doc pm : Value) (an : Option Addr) (cdv ct : Value) (us : List Value), us.length = ps.length → bindArgs (PySem.W.fnOf x x (defArgs st) (defBody st) (defScope st) .none kV doc pm an cdv ct) ⟨us, []⟩ = pure (ps.zip us)) : Lk K mg x st ps := by
  obtain ⟨fd, F⟩ := F
  exact ⟨He.ga K x, fd, He.glo_ok X G g, F, fun s us hl => F.bindsA hb s us hl⟩
mutual
def dvD : He.Dv → Option D
  | .non => some .non
  | .bl b => some (.bl b)
  | .int i => some (.int i)
  | .str x => some (.str x)
  | _ => none
end
theorem rep_dv {K : PySem.W.Frag} {ρ : List Addr} {H : Hp} : ∀ {vs : List He.Dv} {ds : List D}, vs.mapM dvD = some ds → RepL K ρ H (vs.map (He.Dv.v K)) ds := by
  intro vs
  induction vs with
  | nil => intro ds e; simp at e; subst e; exact .nil
  | cons v vs ih =>
    intro ds e
    simp only [List.mapM_cons, Option.bind_eq_bind, Option.bind_eq_some_iff] at e
    obtain ⟨d, e1, ds', e2, e3⟩ := e
    cases e3
    refine .cons ?_ (ih e2)
    cases v <;> simp only [dvD, Option.some.injEq, reduceCtorEq] at e1 <;> subst e1
    · exact .non
    · exact .bl _
    · exact .int _
    · exact .str _
/-- a written tuple -/
theorem cst_tup {K : PySem.W.Frag} {h : Heap} {mg : Str → Option Value} {x : Str} {vs : List He.Dv} {ds : List D} (X : K.In h) (G : h.Ns mainGlobals mg) (g : (He.Fa.glo x).ok K = true) (t : He.tupB K x vs = true) (e : vs.mapM dvD = some ds) : Cst K mg x (.tup ds) :=
  ⟨_, .ref (He.ga K x), He.glo_ok X G g, rfl, fun ρ H => .tup (He.tupB_ok t H) (rep_dv e)⟩
theorem cst_int {K : PySem.W.Frag} {h : Heap} {mg : Str → Option Value} {x : Str} {i : Int} (X : K.In h) (G : h.Ns mainGlobals mg) (g : (He.Fa.int x i).ok K = true) : Cst K mg x (.int i) := by
  obtain ⟨t, e⟩ := He.int_ok X G g
  exact ⟨_, .int i, e, ⟨t, rfl⟩, fun ρ H => .int i⟩
theorem cst_str {K : PySem.W.Frag} {h : Heap} {mg : Str → Option Value} {x z : Str} (X : K.In h) (G : h.Ns mainGlobals mg) (g : (He.Fa.str x z).ok K = true) : Cst K mg x (.str z) := by
  obtain ⟨t, e⟩ := He.str_ok X G g
  exact ⟨_, .str z, e, ⟨t, rfl⟩, fun ρ H => .str z⟩
/-- the law's own call -/
theorem sp_law {K : PySem.W.Frag} {m : DCl} {ns : List Int} {H : Hp} {a : Addr} (hm : ∃ h', m [.fls (ns.map D.int)] [] = .ok (.bl true) h') (hO : Only H) (hS : SqL K H a (ns.map V.int)) : spD K 1 m [.ref a] H (fun v _ => v = .bl true) fun _ _ _ => False := by
  obtain ⟨h', e⟩ := hm
  have rl : ∀ l : List Int, RepL K [] H (l.map V.int) (l.map D.int) := fun l => by
    induction l with
    | nil => exact .nil
    | cons i l ih => exact .cons (.int i) ih
  have hF : SqF K H a (ns.map V.int) := by
    rcases hS with (q | q) | q
    · rcases hO a with z | ⟨o, xs, z⟩
      · rw [z] at q; cases q
      · rw [z] at q; cases q
    · exact .inl q
    · exact .inr q
  refine ⟨rfl, [.fls (ns.map D.int)], [], [], .cons (.fls hF (rl ns)) .nil, ⟨rfl, List.nodup_nil, fun n e a h1 h2 => by simp at h1⟩, ?_⟩
  rw [e]
  intro ρ' H' R' x' v rv
  cases rv
  rfl
end Sm

/-! SmH: how the combinators evaluate; loops and comprehensions over what stays. -/
namespace Sm
open PySem PySem.Spec PyProof.Rows L2

section
variable {σ : Sg} {h h1 : MH} {f fa fb fc : FE} {fl : FA} {g g' : FS} {ga gb : FT} {d : D} {i : Nat}
@[simp] theorem ev_c : fC d σ h = .ok d h := rfl
@[simp] theorem ev_var : fVar i σ h = match σ[i]? with | some (some d) => .ok d h | _ => .err := rfl
@[simp] theorem ev_nil : fNil σ h = .ok [] h := rfl
@[simp] theorem ev_cons : fCons fa fl σ h = (fa σ h).bind fun d h1 => (fl σ h1).bind fun ds h2 => .ok (d :: ds) h2 := rfl
@[simp] theorem ev_tup : fTup fl σ h = (fl σ h).bind fun ds h1 => if ds.length ≤ 1000000 then .ok (.tup ds) h1 else .err := rfl
@[simp] theorem ev_lst : fLst fl σ h = (fl σ h).bind fun ds h1 => allocD ds h1 := rfl
@[simp] theorem ev_op {o : DOp} : fOp o fa fb σ h = (fa σ h).bind fun x h1 => (fb σ h1).bind fun y h2 => o x y h2 := rfl
@[simp] theorem ev_tst : fTst f σ h = (f σ h).bind toB := rfl
@[simp] theorem ev_toB {b : Bool} : toB (.bl b) h = .ok b h := rfl
@[simp] theorem ev_tru : fTru f σ h = (f σ h).bind dTru := rfl
@[simp] theorem ev_andT : fAndT ga gb σ h = (ga σ h).bind fun b h1 => if b = true then gb σ h1 else .ok false h1 := rfl
@[simp] theorem ev_orT : fOrT ga gb σ h = (ga σ h).bind fun b h1 => if b = true then .ok true h1 else gb σ h1 := rfl
@[simp] theorem ev_notT : fNotT ga σ h = (ga σ h).bind fun b h1 => .ok (!b) h1 := rfl
@[simp] theorem ev_andV : fAndV fa fb σ h = (fa σ h).bind fun d h1 => (dTru d h1).bind fun k h2 => if k = true then fb σ h2 else .ok d h2 := rfl
@[simp] theorem ev_orV : fOrV fa fb σ h = (fa σ h).bind fun d h1 => (dTru d h1).bind fun k h2 => if k = true then .ok d h2 else fb σ h2 := rfl
@[simp] theorem ev_notV : fNotV fa σ h = (fa σ h).bind fun d h1 => (dTru d h1).bind fun k h2 => .ok (.bl (!k)) h2 := rfl
@[simp] theorem ev_neg : fNeg fa σ h = (fa σ h).bind fun d h1 => match d with | .int i => .ok (.int (-i)) h1 | _ => .err := rfl
@[simp] theorem ev_ifE : fIfE ga fa fb σ h = (ga σ h).bind fun k h1 => if k = true then fa σ h1 else fb σ h1 := rfl
@[simp] theorem ev_chain {o o' : DOp} : fChain o o' fa fb fc σ h = (fa σ h).bind fun x h1 => (fb σ h1).bind fun y h2 => (o x y h2).bind fun z h3 => (toB z h3).bind fun k h4 => if k = true then (fc σ h4).bind fun u h5 => o' y u h5 else .ok (.bl false) h4 := rfl
@[simp] theorem ev_no : fNo σ h = .ok none h := rfl
@[simp] theorem ev_so : fSo fa σ h = (fa σ h).bind fun d h1 => match d with | .int i => .ok (some i) h1 | _ => .err := rfl
@[simp] theorem ev_sl {fo fh : FO} : fSl fa fo fh σ h = (fa σ h).bind fun x h1 => (fo σ h1).bind fun l h2 => (fh σ h2).bind fun u h3 => dSl x l u h3 := rfl
@[simp] theorem ev_cb {op : DCl} : fCB op fl σ h = (fl σ h).bind fun ds h1 => op ds h1 := rfl
@[simp] theorem ev_isi {T : String} : fIsi T fa σ h = (fa σ h).bind fun d h1 => match kitB (tyN d) T with | some b => .ok (.bl b) h1 | none => .err := rfl
@[simp] theorem ev_mt {op : DMt} : fMt op fa fl σ h = (fa σ h).bind fun x h1 => if isL x = true then (fl σ h1).bind fun ds h2 => op x ds h2 else .err := rfl
@[simp] theorem ev_lr1 : fLR1 fa σ h = (fa σ h).bind fun d h1 => match d with | .int n => lstRg 0 n h1 | _ => .err := rfl
@[simp] theorem ev_gc : fGc f σ h = gcR h.length (f σ h) := rfl
@[simp] theorem ev_gct : fGcT ga σ h = gcT h.length (ga σ h) := rfl
@[simp] theorem ev_call {n : Nat} {m : DCl} : fCall n m fl σ h = (fl σ h).bind fun ds h1 => if ds.length = n then m ds h1 else .err := rfl
@[simp] theorem ev_nx : fNx σ h = .ok (.nx σ) h := rfl
@[simp] theorem ev_seq : fSeq g g' σ h = (g σ h).bind fun fl h1 => match fl with | .nx σ1 => g' σ1 h1 | o => .ok o h1 := rfl
@[simp] theorem ev_exp : fExp f σ h = (f σ h).bind fun _ h1 => .ok (.nx σ) h1 := rfl
@[simp] theorem ev_ret : fRet f σ h = (f σ h).bind fun d h1 => .ok (.rt d) h1 := rfl
@[simp] theorem ev_retN : fRetN σ h = .ok (.rt .non) h := rfl
@[simp] theorem ev_if : fIf ga g g' σ h = (ga σ h).bind fun k h1 => if k = true then g σ h1 else g' σ h1 := rfl
@[simp] theorem ev_set : fSet i f σ h = (f σ h).bind fun d h1 => .ok (.nx (σ.set i (some d))) h1 := rfl
@[simp] theorem ev_asg {t : FG} : fAsg f t σ h = (f σ h).bind fun d h1 => (t d σ h1).bind fun σ1 h2 => .ok (.nx σ1) h2 := rfl
@[simp] theorem ev_par {j : Nat} : fPar i j fl σ h = (fl σ h).bind fun ds h1 => match ds with | [d, e] => .ok (.nx ((σ.set i (some d)).set j (some e))) h1 | _ => .err := rfl
@[simp] theorem ev_par3 {j l : Nat} : fPar3 i j l fl σ h = (fl σ h).bind fun ds h1 => match ds with | [d, e, c] => .ok (.nx (((σ.set i (some d)).set j (some e)).set l (some c))) h1 | _ => .err := rfl
@[simp] theorem ev_aug {op : DOp} : fAug i op f σ h = match σ[i]? with | some (some x) => (f σ h).bind fun y h1 => (op x y h1).bind fun z h2 => .ok (.nx (σ.set i (some z))) h2 | _ => .err := rfl
@[simp] theorem ev_gnm : gNm i d σ h = .ok (σ.set i (some d)) h := rfl
@[simp] theorem ev_gsb : gSb fa fb d σ h = (fa σ h).bind fun x h1 => (fb σ h1).bind fun i h2 => (setD x i d h2).bind fun _ h3 => .ok σ h3 := rfl
@[simp] theorem ev_gsnil : gsNil [] σ h = .ok σ h := rfl
@[simp] theorem ev_gscons {t : FG} {gs : FGs} {r : List D} : gsCons t gs (d :: r) σ h = (t d σ h).bind fun σ1 h1 => gs r σ1 h1 := rfl
@[simp] theorem ev_gtp {n : Nat} {gs : FGs} {ds : List D} : gTp n gs (.tup ds) σ h = if ds.length = n then gs ds σ h else .err := rfl
@[simp] theorem ev_yes : fYes σ h = .ok true h := rfl
@[simp] theorem ev_retR_nx : retR (.ok (.nx σ) h) = .ok .non h := rfl
@[simp] theorem ev_retR_rt : retR (.ok (.rt d) h) = .ok d h := rfl
end
/-! values -/
section
variable {h : MH} {i j : Int} {ds es : List D} {d e : D}
@[simp] theorem v_add : dAdd (.int i) (.int j) h = .ok (.int (i + j)) h := rfl
@[simp] theorem v_sub : dSub (.int i) (.int j) h = .ok (.int (i - j)) h := rfl
@[simp] theorem v_iadd : dIAdd (.int i) (.int j) h = .ok (.int (i + j)) h := rfl
theorem v_mul (c : mulOk i j = true) : dMul (.int i) (.int j) h = .ok (.int (i * j)) h := by simp [dMul, c]
theorem v_fdiv (c : divOk j = true) : dFdiv (.int i) (.int j) h = .ok (.int (i.fdiv j)) h := by simp [dFdiv, c]
theorem v_mod (c : j ≠ 0) : dMod (.int i) (.int j) h = .ok (.int (i.fmod j)) h := by simp [dMod, c]
@[simp] theorem v_cmpI {p : Int → Int → Bool} : dCmpI p (.int i) (.int j) h = .ok (.bl (p i j)) h := rfl
@[simp] theorem v_eqI : dEq (.int i) (.int j) h = .ok (.bl (decide (i = j))) h := rfl
@[simp] theorem v_neI : dNe (.int i) (.int j) h = .ok (.bl (!decide (i = j))) h := rfl
@[simp] theorem v_isN : dIs d .non h = .ok (.bl (isN d)) h := by cases d <;> rfl
@[simp] theorem v_isntN : dIsNot d .non h = .ok (.bl (!isN d)) h := by cases d <;> rfl
@[simp] theorem v_isB {a b : Bool} : dIs (.bl a) (.bl b) h = .ok (.bl (decide (a = b))) h := rfl
@[simp] theorem v_isntB {a b : Bool} : dIsNot (.bl a) (.bl b) h = .ok (.bl (!decide (a = b))) h := rfl
@[simp] theorem v_truB {b : Bool} : dTru (.bl b) h = .ok b h := rfl
@[simp] theorem v_truI : dTru (.int i) h = .ok (i != 0) h := rfl
@[simp] theorem v_truT : dTru (.tup ds) h = .ok (!ds.isEmpty) h := rfl
@[simp] theorem v_truN : dTru .non h = .ok false h := rfl
theorem v_truL {n : Nat} (e : h[n]? = some (.lst ds)) : dTru (.lst n) h = .ok (!ds.isEmpty) h := by simp [dTru, e]
@[simp] theorem isN_non : isN .non = true := rfl
@[simp] theorem isN_int : isN (.int i) = false := rfl
@[simp] theorem isN_tup : isN (.tup ds) = false := rfl
@[simp] theorem isN_lst {n : Nat} : isN (.lst n) = false := rfl
@[simp] theorem isL_lst {n : Nat} : isL (.lst n) = true := rfl
@[simp] theorem dI_tup : dI h (.tup ds) = some ds := rfl
@[simp] theorem dI_fls : dI h (.fls ds) = some ds := rfl
@[simp] theorem dT_tup : dT (.tup ds) = some ds := rfl
@[simp] theorem dT_lst {n : Nat} : dT (.lst n) = none := rfl
@[simp] theorem dT_fls : dT (.fls ds) = none := rfl
@[simp] theorem dL_fls : dL h (.fls ds) = some ds := rfl
theorem dL_lst {n : Nat} (e : h[n]? = some (.lst ds)) : dL h (.lst n) = some ds := by simp [dL, e]
theorem dI_lst {n : Nat} (e : h[n]? = some (.lst ds)) : dI h (.lst n) = some ds := by simp [dI, dL, e]
theorem v_ix (e : dI h d = some ds) {x : D} (a : atI ds i = some x) : dIx d (.int i) h = .ok x h := by simp [dIx, e, a]
theorem atI_nat' {α : Type} {xs : List α} {n : Nat} {v : α} (e : xs[n]? = some v) : atI xs (n : Int) = some v := atI_nat e
@[simp] theorem atI_0 {α : Type} {x : α} {xs : List α} : atI (x :: xs) 0 = some x := by simp [atI, ixN]
@[simp] theorem atI_1 {α : Type} {x y : α} {xs : List α} : atI (x :: y :: xs) 1 = some y := by
  have : (1 : Int) < (xs.length : Int) + 1 + 1 := by omega
  simp [atI, ixN, this]
@[simp] theorem v_ix0 {x : D} : dIx (.tup (x :: ds)) (.int 0) h = .ok x h := v_ix rfl atI_0
@[simp] theorem v_ix1 {x y : D} : dIx (.tup (x :: y :: ds)) (.int 1) h = .ok y h := v_ix rfl atI_1
@[simp] theorem v_ix2 {x y z : D} : dIx (.tup (x :: y :: z :: ds)) (.int 2) h = .ok z h := v_ix rfl (atI_nat (j := 2) rfl)
theorem v_alloc (l : ds.length ≤ 1000000) : allocD ds h = .ok (.lst h.length) (h ++ [.lst ds]) := by simp [allocD, l]
@[simp] theorem v_len_tup : cLen [.tup ds] h = .ok (.int ds.length) h := rfl
@[simp] theorem v_len_fls : cLen [.fls ds] h = .ok (.int ds.length) h := rfl
theorem v_len {d : D} (e : dI h d = some ds) : cLen [d] h = .ok (.int ds.length) h := by simp [cLen, e]
@[simp] theorem v_abs : cAbs [.int i] h = .ok (.int i.natAbs) h := by
  simp only [cAbs]
  congr 2
  split <;> omega
@[simp] theorem v_int : cInt [.int i] h = .ok (.int i) h := rfl
@[simp] theorem v_intB {b : Bool} : cInt [.bl b] h = .ok (.int (if b then 1 else 0)) h := rfl
@[simp] theorem v_tup_tup : cTup [.tup ds] h = .ok (.tup ds) h := rfl
theorem v_tup_lst {n : Nat} (e : h[n]? = some (.lst ds)) : cTup [.lst n] h = .ok (.tup ds) h := by simp [cTup, dL, e]
theorem blsD_map (bs : List Bool) : blsD (bs.map D.bl) = some bs := by induction bs with
  | nil => rfl
  | cons b bs ih => simp [blsD, ih]
theorem intsD_map (bs : List Int) : intsD (bs.map D.int) = some bs := by induction bs with
  | nil => rfl
  | cons b bs ih => simp [intsD, ih]
theorem v_all {n : Nat} {bs : List Bool} (e : h[n]? = some (.lst (bs.map D.bl))) : cAll [.lst n] h = .ok (.bl (bs.all id)) h := by simp only [cAll, dL, e, blsD_map]
theorem v_any {n : Nat} {bs : List Bool} (e : h[n]? = some (.lst (bs.map D.bl))) : cAny [.lst n] h = .ok (.bl (bs.any id)) h := by simp only [cAny, dL, e, blsD_map]
theorem v_sum {n : Nat} {bs : List Int} (e : h[n]? = some (.lst (bs.map D.int))) : cSum [.lst n] h = .ok (.int bs.sum) h := by simp only [cSum, dL, e, intsD_map]
theorem v_append {n : Nat} {y : D} (e : h[n]? = some (.lst ds)) (l : ds.length < 1000000) : mAppend (.lst n) [y] h = .ok .non (h.set n (.lst (ds ++ [y]))) := by simp [mAppend, e, l]
/-! isinstance -/
theorem kb_tt : kitB "tuple" "tuple" = some true := by decide +kernel
theorem kb_it : kitB "int" "tuple" = some false := by decide +kernel
theorem kb_nt : kitB "NoneType" "tuple" = some false := by decide +kernel
theorem kb_bt : kitB "bool" "tuple" = some false := by decide +kernel
theorem kb_st : kitB "str" "tuple" = some false := by decide +kernel
theorem kb_lt : kitB "list" "tuple" = some false := by decide +kernel
theorem kb_ti : kitB "tuple" "int" = some false := by decide +kernel
theorem kb_ii : kitB "int" "int" = some true := by decide +kernel
theorem kb_ni : kitB "NoneType" "int" = some false := by decide +kernel
theorem kb_bi : kitB "bool" "int" = some true := by decide +kernel
theorem kb_si : kitB "str" "int" = some false := by decide +kernel
theorem kb_li : kitB "list" "int" = some false := by decide +kernel
theorem kb_tb : kitB "tuple" "bool" = some false := by decide +kernel
theorem kb_ib : kitB "int" "bool" = some false := by decide +kernel
theorem kb_nb : kitB "NoneType" "bool" = some false := by decide +kernel
theorem kb_bb : kitB "bool" "bool" = some true := by decide +kernel
theorem kb_sb : kitB "str" "bool" = some false := by decide +kernel
theorem kb_lb : kitB "list" "bool" = some false := by decide +kernel
theorem kb_tl : kitB "tuple" "list" = some false := by decide +kernel
theorem kb_il : kitB "int" "list" = some false := by decide +kernel
theorem kb_nl : kitB "NoneType" "list" = some false := by decide +kernel
theorem kb_ll : kitB "list" "list" = some true := by decide +kernel
def isT : D → Bool | .tup _ => true | _ => false
def isI : D → Bool | .int _ => true | .bl _ => true | _ => false
def isB : D → Bool | .bl _ => true | _ => false
@[simp] theorem kb_tup : kitB (tyN d) "tuple" = some (isT d) := by cases d <;> first | exact kb_tt | exact kb_it | exact kb_nt | exact kb_bt | exact kb_st | exact kb_lt
@[simp] theorem kb_int : kitB (tyN d) "int" = some (isI d) := by cases d <;> first | exact kb_ti | exact kb_ii | exact kb_ni | exact kb_bi | exact kb_si | exact kb_li
@[simp] theorem kb_bool : kitB (tyN d) "bool" = some (isB d) := by cases d <;> first | exact kb_tb | exact kb_ib | exact kb_nb | exact kb_bb | exact kb_sb | exact kb_lb
@[simp] theorem kb_list : kitB (tyN d) "list" = some (isL d) := by cases d <;> first | exact kb_tl | exact kb_il | exact kb_nl | exact kb_ll | (show kitB "bool" "list" = some false; decide +kernel) | (show kitB "str" "list" = some false; decide +kernel)
@[simp] theorem isT_tup : isT (.tup ds) = true := rfl
@[simp] theorem isI_int : isI (.int i) = true := rfl
@[simp] theorem isB_int : isB (.int i) = false := rfl
@[simp] theorem isI_bl {b : Bool} : isI (.bl b) = true := rfl
@[simp] theorem isB_bl {b : Bool} : isB (.bl b) = true := rfl
end

/-! ### the sweep -/
/-! no list number in it -/
mutual
def D.pu : D → Bool
  | .lst _ => false
  | .tup ds => D.puL ds
  | .fls ds => D.puL ds
  | _ => true
def D.puL : List D → Bool
  | [] => true
  | d :: ds => D.pu d && D.puL ds
end
mutual
theorem cl_pu (n : Nat) : ∀ d : D, d.pu = true → d.cl n = true
  | .non, _ | .bl _, _ | .int _, _ | .str _, _ => rfl
  | .lst _, h => by simp [D.pu] at h
  | .tup ds, h => clL_pu n ds h
  | .fls ds, h => clL_pu n ds h
theorem clL_pu (n : Nat) : ∀ ds : List D, D.puL ds = true → D.clL n ds = true
  | [], _ => rfl
  | d :: ds, h => by
    obtain ⟨h1, h2⟩ := Bool.and_eq_true_iff.mp (show (D.pu d && D.puL ds) = true from h)
    exact Bool.and_eq_true_iff.mpr ⟨cl_pu n d h1, clL_pu n ds h2⟩
end
theorem puL_iff : ∀ ds : List D, D.puL ds = true ↔ ∀ d ∈ ds, d.pu = true
  | [] => by simp [D.puL]
  | d :: ds => by simp [D.puL, puL_iff ds]
theorem clL_iff (n : Nat) : ∀ ds : List D, D.clL n ds = true ↔ ∀ d ∈ ds, d.cl n = true
  | [] => by simp [D.clL]
  | d :: ds => by simp [D.clL, clL_iff n ds]
mutual
theorem cl_mono {n m : Nat} (l : n ≤ m) : ∀ d : D, d.cl n = true → d.cl m = true
  | .non, _ | .bl _, _ | .int _, _ | .str _, _ => rfl
  | .lst k, h => decide_eq_true (Nat.lt_of_lt_of_le (of_decide_eq_true h) l)
  | .tup ds, h => clL_mono l ds h
  | .fls ds, h => clL_mono l ds h
theorem clL_mono {n m : Nat} (l : n ≤ m) : ∀ ds : List D, D.clL n ds = true → D.clL m ds = true
  | [], _ => rfl
  | d :: ds, h => by
    obtain ⟨h1, h2⟩ := Bool.and_eq_true_iff.mp (show (D.cl n d && D.clL n ds) = true from h)
    exact Bool.and_eq_true_iff.mpr ⟨cl_mono l d h1, clL_mono l ds h2⟩
end
/-- every list number in h stands in h -/
def Clo (h : MH) : Prop := clH h.length h = true
theorem clo_nil : Clo [] := rfl
theorem Clo.push {h : MH} (c : Clo h) {ds : List D} (p : D.puL ds = true) : Clo (h ++ [.lst ds]) := by
  unfold Clo clH at *
  rw [List.all_append, Bool.and_eq_true]
  refine ⟨?_, by simp [HE.cl, clL_pu _ ds p]⟩
  rw [List.all_eq_true] at c ⊢
  intro e m
  have := c e m
  cases e with
  | lst es => exact clL_mono (by simp) es this
theorem Clo.set {h : MH} (c : Clo h) {n : Nat} {ds : List D} (p : D.clL h.length ds = true) : Clo (h.set n (.lst ds)) := by
  unfold Clo clH at *
  rw [List.all_eq_true] at c ⊢
  intro e m
  rw [List.length_set]
  rcases List.mem_or_eq_of_mem_set m with m | m
  · exact c e m
  · rw [m]; exact p
@[simp] theorem gc_same {h : MH} {d : D} : gcR h.length (.ok d h) = .ok d h := by simp [gcR]
theorem gc_len {h h' : MH} {d : D} {n : Nat} (l : h'.length = n) : gcR n (.ok d h') = .ok d h' := by simp [gcR, l]
theorem gc_drop {h g : MH} {d : D} (c : Clo h) (p : d.cl h.length = true) : gcR h.length (.ok d (h ++ g)) = .ok d h := by
  unfold gcR
  by_cases hg : (h ++ g).length = h.length
  · have : g = [] := by simpa using hg
    subst this
    simp
  · have c' : clH h.length h = true := c
    simp only [if_neg hg]
    rw [List.take_left' rfl]
    simp [c', p]
theorem gc_new {h g : MH} {ds : List D} (c : Clo h) (p : D.clL h.length ds = true) : gcR h.length (.ok (.lst (h.length + g.length)) (h ++ g ++ [.lst ds])) = .ok (.lst h.length) (h ++ [.lst ds]) := by
  unfold gcR
  have c' : clH h.length h = true := c
  have e1 : ¬ (h ++ g ++ [HE.lst ds]).length = h.length := by simp
  have e2 : (h ++ g ++ [HE.lst ds]).take h.length = h := by rw [List.append_assoc, List.take_left' rfl]
  have e3 : (D.lst (h.length + g.length)).cl h.length = false := by simp [D.cl]
  have e4 : (h ++ g ++ [HE.lst ds])[h.length + g.length]? = some (.lst ds) := by
    rw [List.getElem?_append_right (by simp), List.length_append, Nat.sub_self]; rfl
  simp only [if_neg e1, e2, c', if_true, e3, Bool.false_eq_true, if_false, e4]
  rw [if_pos ⟨by omega, p⟩]
theorem gc_new0 {h : MH} {ds : List D} (c : Clo h) (p : D.clL h.length ds = true) : gcR h.length (.ok (.lst h.length) (h ++ [.lst ds])) = .ok (.lst h.length) (h ++ [.lst ds]) := by
  have := gc_new (g := []) c p
  simpa using this
@[simp] theorem gct_same {h : MH} {b : Bool} : gcT h.length (.ok b h) = .ok b h := by simp [gcT]
theorem gct_drop {h g : MH} {b : Bool} (c : Clo h) : gcT h.length (.ok b (h ++ g)) = .ok b h := by
  unfold gcT
  by_cases hg : (h ++ g).length = h.length
  · have : g = [] := by simpa using hg
    subst this
    simp
  · have c' : clH h.length h = true := c
    simp only [if_neg hg]
    rw [List.take_left' rfl]
    simp [c']
end Sm

/-! SmI: loops and comprehensions whose turns leave the small heap. -/
namespace Sm
open PySem PySem.Spec PyProof.Rows L2

/-- a for by an invariant over the turn, the slots and the heap -/
theorem forGo_inv {chk : MH → Bool} {tgt : FG} {body : FS} (I : Nat → Sg → MH → Prop) : ∀ (ds : List D) (i : Nat) (σ : Sg) (h : MH), I i σ h →
    (∀ j σ h, I j σ h → chk h = true) →
    (∀ (j : Nat) (d : D) (σ : Sg) (h : MH), ds[j]? = some d → I (i + j) σ h → ∃ σ1 h1 fl h2 σ2, tgt d σ h = .ok σ1 h1 ∧ body σ1 h1 = .ok fl h2 ∧ (fl = .nx σ2 ∨ fl = .ct σ2) ∧ I (i + j + 1) σ2 h2) →
    ∃ σ' h', forGo chk tgt body ds σ h = .ok (.nx σ') h' ∧ I (i + ds.length) σ' h'
  | [], i, σ, h, h0, hc, _ => ⟨σ, h, by rw [forGo, if_pos (hc i σ h h0)], h0⟩
  | d :: ds, i, σ, h, h0, hc, hs => by
    obtain ⟨σ1, h1, fl, h2, σ2, e1, e2, e3, h3⟩ := hs 0 d σ h rfl h0
    have ih := forGo_inv (chk := chk) (tgt := tgt) (body := body) I ds (i + 1) σ2 h2 h3 hc (fun j d' σ h e z => by
      have := hs (j + 1) d' σ h (by simpa using e) (by rw [show i + (j + 1) = i + 1 + j by omega]; exact z)
      rw [show i + (j + 1) + 1 = i + 1 + j + 1 by omega] at this
      exact this)
    obtain ⟨σ', h', e4, h4⟩ := ih
    refine ⟨σ', h', ?_, by rw [List.length_cons, show i + (ds.length + 1) = i + 1 + ds.length by omega]; exact h4⟩
    rw [forGo, if_pos (hc i σ h h0), e1, bind_ok, e2, bind_ok]
    rcases e3 with e3 | e3 <;> subst e3 <;> exact e4
/-- a for whose turns leave the heap: st is what the slots hold ahead of turn i -/
theorem forGo_pure {chk : MH → Bool} {tgt : FG} {body : FS} {h : MH} (hc : chk h = true) (I : Nat → Sg → Prop) (ds : List D) (σ : Sg) (h0 : I 0 σ)
    (hs : ∀ (j : Nat) (d : D) (σ : Sg), ds[j]? = some d → I j σ → ∃ σ1 σ2, tgt d σ h = .ok σ1 h ∧ body σ1 h = .ok (.nx σ2) h ∧ I (j + 1) σ2) :
    ∃ σ', forGo chk tgt body ds σ h = .ok (.nx σ') h ∧ I ds.length σ' := by
  obtain ⟨σ', h', e, hI⟩ := forGo_inv (chk := chk) (tgt := tgt) (body := body) (fun i σ h' => h' = h ∧ I i σ) ds 0 σ h ⟨rfl, h0⟩ (fun _ _ _ z => by rw [z.1]; exact hc) (fun j d σ h' ej z => by
    obtain ⟨rfl, z⟩ := z
    rw [Nat.zero_add] at z
    obtain ⟨σ1, σ2, a, b, c⟩ := hs j d σ ej z
    exact ⟨σ1, _, .nx σ2, _, σ2, a, b, .inl rfl, rfl, by rw [Nat.zero_add]; exact c⟩)
  obtain ⟨rfl, hI⟩ := hI
  rw [Nat.zero_add] at hI
  exact ⟨σ', e, hI⟩
/-- a for that may leave by return: every turn goes on or hands back -/
theorem forGo_ret {chk : MH → Bool} {tgt : FG} {body : FS} {h : MH} (hc : chk h = true) (I : Nat → Sg → Prop) (P : D → Prop) (ds : List D) (σ : Sg) (h0 : I 0 σ)
    (hs : ∀ (j : Nat) (d : D) (σ : Sg), ds[j]? = some d → I j σ → ∃ σ1, tgt d σ h = .ok σ1 h ∧ ((∃ σ2, body σ1 h = .ok (.nx σ2) h ∧ I (j + 1) σ2) ∨ ∃ r, body σ1 h = .ok (.rt r) h ∧ P r)) :
    (∃ σ', forGo chk tgt body ds σ h = .ok (.nx σ') h ∧ I ds.length σ') ∨ ∃ r, forGo chk tgt body ds σ h = .ok (.rt r) h ∧ P r := by
  suffices H : ∀ (ds : List D) (i : Nat) (σ : Sg), I i σ → (∀ (j : Nat) (d : D) (σ : Sg), ds[j]? = some d → I (i + j) σ → ∃ σ1, tgt d σ h = .ok σ1 h ∧ ((∃ σ2, body σ1 h = .ok (.nx σ2) h ∧ I (i + j + 1) σ2) ∨ ∃ r, body σ1 h = .ok (.rt r) h ∧ P r)) →
      (∃ σ', forGo chk tgt body ds σ h = .ok (.nx σ') h ∧ I (i + ds.length) σ') ∨ ∃ r, forGo chk tgt body ds σ h = .ok (.rt r) h ∧ P r by
    have := H ds 0 σ h0 (fun j d σ e z => by rw [Nat.zero_add] at z ⊢; exact hs j d σ e z)
    rw [Nat.zero_add] at this
    exact this
  intro ds
  induction ds with
  | nil => intro i σ h0 _; exact .inl ⟨σ, by rw [forGo, if_pos hc], h0⟩
  | cons d ds ih =>
    intro i σ h0 hs
    obtain ⟨σ1, e1, h1⟩ := hs 0 d σ rfl h0
    rw [forGo, if_pos hc, e1, bind_ok]
    rcases h1 with ⟨σ2, e2, h2⟩ | ⟨r, e2, h2⟩
    · rw [e2, bind_ok]
      have := ih (i + 1) σ2 h2 (fun j d' σ e z => by
        have := hs (j + 1) d' σ (by simpa using e) (by rw [show i + (j + 1) = i + 1 + j by omega]; exact z)
        rw [show i + (j + 1) + 1 = i + 1 + j + 1 by omega] at this
        exact this)
      rw [List.length_cons, show i + (ds.length + 1) = i + 1 + ds.length by omega]
      exact this
    · exact .inr ⟨r, by rw [e2, bind_ok], h2⟩
/-- a comprehension whose turns leave the heap -/
theorem lcGo_pure {chk : MH → Bool} {tgt : FG} {tst : FT} {elt : FE} {σ0 : Sg} {h : MH} (hc : chk h = true) (p : D → Bool) (f : D → D) : ∀ (ds acc : List D),
    (∀ d ∈ ds, ∃ σ1, tgt d σ0 h = .ok σ1 h ∧ tst σ1 h = .ok (p d) h ∧ (p d = true → elt σ1 h = .ok (f d) h)) →
    lcGo chk tgt tst elt σ0 ds acc h = .ok (acc ++ (ds.filter p).map f) h
  | [], acc, _ => by simp [lcGo, hc]
  | d :: ds, acc, hs => by
    obtain ⟨σ1, e1, e2, e3⟩ := hs d (List.mem_cons_self ..)
    have ih := lcGo_pure (chk := chk) (tgt := tgt) (tst := tst) (elt := elt) (σ0 := σ0) hc p f ds
    rw [lcGo, if_pos hc, e1, noX_ok, bind_ok, e2, noX_ok, bind_ok]
    cases hp : p d with
    | true =>
      rw [if_pos rfl, e3 hp, noX_ok, bind_ok, ih _ fun d' m => hs d' (List.mem_cons_of_mem _ m), List.filter_cons_of_pos hp]
      simp
    | false =>
      rw [if_neg (by simp), ih _ fun d' m => hs d' (List.mem_cons_of_mem _ m), List.filter_cons_of_neg (by simp [hp])]
/-- without a test -/
theorem lcGo_map {chk : MH → Bool} {tgt : FG} {elt : FE} {σ0 : Sg} {h : MH} (hc : chk h = true) (f : D → D) (ds acc : List D)
    (hs : ∀ d ∈ ds, ∃ σ1, tgt d σ0 h = .ok σ1 h ∧ elt σ1 h = .ok (f d) h) : lcGo chk tgt fYes elt σ0 ds acc h = .ok (acc ++ ds.map f) h := by
  have := lcGo_pure (chk := chk) (tgt := tgt) (tst := fYes) (elt := elt) (σ0 := σ0) hc (fun _ => true) f ds acc (fun d m => let ⟨σ1, a, b⟩ := hs d m; ⟨σ1, a, rfl, fun _ => b⟩)
  rw [this, List.filter_eq_self.mpr (fun _ _ => rfl)]
@[simp] theorem chk_vals {ds es : List D} {h : MH} : (It'.vals es).chk ds h = true := rfl
@[simp] theorem items_vals {ds : List D} {h : MH} : (It'.vals ds).items h = some ds := rfl
theorem chk_lst {ds : List D} {h : MH} {n : Nat} (e : h[n]? = some (.lst ds)) : (It'.lst n).chk ds h = true := decide_eq_true e
theorem items_lst {ds : List D} {h : MH} {n : Nat} (e : h[n]? = some (.lst ds)) : (It'.lst n).items h = some ds := by simp [It'.items, e]
/-- what is walked: a tuple, a frozen list, a list -/
def Sqn (h : MH) (d : D) (ds : List D) : Prop := d = .tup ds ∨ d = .fls ds ∨ ∃ n, d = .lst n ∧ h[n]? = some (.lst ds)
theorem Sqn.dI {h : MH} {d : D} {ds : List D} (s : Sqn h d ds) : dI h d = some ds := by
  rcases s with rfl | rfl | ⟨n, rfl, e⟩
  · rfl
  · rfl
  · exact dI_lst e
theorem Sqn.it {h : MH} {d : D} {ds : List D} {σ : Sg} {f : FE} (s : Sqn h d ds) (e : f σ h = .ok d h) : ∃ it, iSeq f σ h = .ok it h ∧ it.items h = some ds ∧ it.chk ds h = true := by
  rcases s with rfl | rfl | ⟨n, rfl, e'⟩
  · exact ⟨.vals ds, by simp [iSeq, e], rfl, rfl⟩
  · exact ⟨.vals ds, by simp [iSeq, e], rfl, rfl⟩
  · exact ⟨.lst n, by simp [iSeq, e], items_lst e', chk_lst e'⟩
theorem fFor_eq {fi : FI} {tgt : FG} {body : FS} {σ : Sg} {h h1 : MH} {it : It'} {ds : List D} (e : fi σ h = .ok it h1) (e2 : it.items h1 = some ds) : fFor fi tgt body σ h = forGo (fun h => it.chk ds h) tgt body ds σ h1 := by
  unfold fFor
  rw [e, bind_ok, e2]
theorem fLc_eq {own : List Nat} {fi : FI} {tgt : FG} {tst : FT} {elt : FE} {σ : Sg} {h h1 : MH} {it : It'} {ds : List D} (e : fi σ h = .ok it h1) (e2 : it.items h1 = some ds) (l : ds.length ≤ 1000000) :
    fLc own fi tgt tst elt σ h = (lcGo (fun h => it.chk ds h) tgt tst elt (wipeD σ own) ds [] h1).bind lcEnd := by
  unfold fLc
  rw [e, bind_ok, e2]
  exact if_pos l
/-- [elt for x in d], the turns leaving the heap -/
theorem fLc_map {own : List Nat} {fe : FE} {tgt : FG} {elt : FE} {σ : Sg} {h : MH} {d : D} {ds : List D} (s : Sqn h d ds) (e : fe σ h = .ok d h) (l : ds.length ≤ 1000000) (f : D → D)
    (hs : ∀ d ∈ ds, ∃ σ1, tgt d (wipeD σ own) h = .ok σ1 h ∧ elt σ1 h = .ok (f d) h) : fLc own (iSeq fe) tgt fYes elt σ h = .ok (.lst h.length) (h ++ [.lst (ds.map f)]) := by
  obtain ⟨it, e1, e2, e3⟩ := s.it e
  rw [fLc_eq e1 e2 l, lcGo_map e3 f ds [] hs]
  rfl
theorem fLc_filter {own : List Nat} {fe : FE} {tgt : FG} {tst : FT} {elt : FE} {σ : Sg} {h : MH} {d : D} {ds : List D} (s : Sqn h d ds) (e : fe σ h = .ok d h) (l : ds.length ≤ 1000000) (p : D → Bool) (f : D → D)
    (hs : ∀ d ∈ ds, ∃ σ1, tgt d (wipeD σ own) h = .ok σ1 h ∧ tst σ1 h = .ok (p d) h ∧ (p d = true → elt σ1 h = .ok (f d) h)) : fLc own (iSeq fe) tgt tst elt σ h = .ok (.lst h.length) (h ++ [.lst ((ds.filter p).map f)]) := by
  obtain ⟨it, e1, e2, e3⟩ := s.it e
  rw [fLc_eq e1 e2 l, lcGo_pure e3 p f ds [] hs]
  rfl
/-- over range(n) -/
theorem iRg1_eq {fa : FE} {σ : Sg} {h : MH} {n : Nat} (e : fa σ h = .ok (.int n) h) (l : n ≤ 1000000) : iRg1 fa σ h = .ok (.vals ((List.range n).map fun i : Nat => D.int (i : Int))) h := by
  simp only [iRg1, e, bind_ok, iRg]
  rw [if_pos (by omega)]
  simp [rgD]
theorem fLc_rg {own : List Nat} {fa : FE} {tgt : FG} {elt : FE} {σ : Sg} {h : MH} {n : Nat} (e : fa σ h = .ok (.int n) h) (l : n ≤ 1000000) (f : Nat → D)
    (hs : ∀ i, i < n → ∃ σ1, tgt (.int i) (wipeD σ own) h = .ok σ1 h ∧ elt σ1 h = .ok (f i) h) : fLc own (iRg1 fa) tgt fYes elt σ h = .ok (.lst h.length) (h ++ [.lst ((List.range n).map f)]) := by
  have hm : ((List.range n).map fun i : Nat => D.int (i : Int)).map (fun d => match d with | .int i => f i.toNat | _ => .non) = (List.range n).map f := by simp
  rw [fLc_eq (iRg1_eq e l) rfl (by simpa using l), lcGo_map rfl (fun d => match d with | .int i => f i.toNat | _ => .non) _ [] ?_, List.nil_append, hm]
  · rfl
  · intro d m
    obtain ⟨i, hi, rfl⟩ := List.mem_map.mp m
    obtain ⟨σ1, a, b⟩ := hs i (List.mem_range.mp hi)
    exact ⟨σ1, a, by rw [b]; simp⟩
theorem fLc_rgf {own : List Nat} {fa : FE} {tgt : FG} {tst : FT} {elt : FE} {σ : Sg} {h : MH} {n : Nat} (e : fa σ h = .ok (.int n) h) (l : n ≤ 1000000) (p : Nat → Bool) (f : Nat → D)
    (hs : ∀ i, i < n → ∃ σ1, tgt (.int i) (wipeD σ own) h = .ok σ1 h ∧ tst σ1 h = .ok (p i) h ∧ (p i = true → elt σ1 h = .ok (f i) h)) : fLc own (iRg1 fa) tgt tst elt σ h = .ok (.lst h.length) (h ++ [.lst (((List.range n).filter p).map f)]) := by
  have hm : (((List.range n).map fun i : Nat => D.int (i : Int)).filter (fun d => match d with | .int i => p i.toNat | _ => false)).map (fun d => match d with | .int i => f i.toNat | _ => .non) = ((List.range n).filter p).map f := by
    rw [List.filter_map, List.map_map]
    congr 1
  rw [fLc_eq (iRg1_eq e l) rfl (by simpa using l), lcGo_pure rfl (fun d => match d with | .int i => p i.toNat | _ => false) (fun d => match d with | .int i => f i.toNat | _ => .non) _ [] ?_, List.nil_append, hm]
  · rfl
  · intro d m
    obtain ⟨i, hi, rfl⟩ := List.mem_map.mp m
    obtain ⟨σ1, a, b, c⟩ := hs i (List.mem_range.mp hi)
    exact ⟨σ1, a, by rw [b]; simp, fun z => by rw [c (by simpa using z)]; simp⟩
/-- a while by an invariant and a measure -/
theorem fWhile_inv {c : FT} {b : FS} (I : Nat → Sg → MH → Prop) (σ : Sg) (h : MH) (m : Nat) (h0 : I m σ h)
    (hs : ∀ m σ h, I m σ h → (∃ h1, c σ h = .ok false h1 ∧ h1 = h) ∨ (c σ h = .ok true h ∧ ∃ m' σ' h', m' < m ∧ b σ h = .ok (.nx σ') h' ∧ I m' σ' h')) :
    ∃ m' σ' h', fWhile c b σ h = .ok (.nx σ') h' ∧ I m' σ' h' ∧ c σ' h' = .ok false h' := by
  suffices H : ∀ m σ h, I m σ h → ∃ n m' σ' h', whileGo c b n σ h = .ok (.nx σ') h' ∧ I m' σ' h' ∧ c σ' h' = .ok false h' by
    obtain ⟨n, m', σ', h', e, z⟩ := H m σ h h0
    exact ⟨m', σ', h', fWhile_of n e (by simp), z⟩
  intro m
  induction m using Nat.strongRecOn with
  | ind m ih =>
    intro σ h hI
    rcases hs m σ h hI with ⟨h1, e, rfl⟩ | ⟨e, m', σ', h', hm, e2, hI'⟩
    · exact ⟨1, m, σ, h1, by rw [whileGo, e, bind_ok, if_neg (by simp)], hI, e⟩
    · obtain ⟨n, m2, σ2, h2, e3, z⟩ := ih m' hm σ' h' hI'
      exact ⟨n + 1, m2, σ2, h2, by rw [whileGo, e, bind_ok, if_pos rfl, e2, bind_ok]; exact e3, z⟩
end Sm

/-! SmJ: == over data without truth values; the parts as Rat. -/
namespace Sm
open PySem PySem.Spec PyProof.Rows L2

/-! flat: ints, texts that can be laid, None, tuples of such; its depth -/
mutual
def D.fl : D → Bool
  | .non => true
  | .int _ => true
  | .str x => PyData.canLay0 (.str x)
  | .tup ds => D.flL ds
  | _ => false
def D.flL : List D → Bool
  | [] => true
  | d :: ds => D.fl d && D.flL ds
end
mutual
def D.dep : D → Nat
  | .tup ds => D.depL ds + 1
  | _ => 0
def D.depL : List D → Nat
  | [] => 0
  | d :: ds => max (D.dep d) (D.depL ds)
end
mutual
def D.toPy : D → PyData
  | .int i => .int i
  | .str x => .str x
  | .tup ds => .tuple (D.toPyL ds)
  | _ => .none
def D.toPyL : List D → List PyData
  | [] => []
  | d :: ds => D.toPy d :: D.toPyL ds
end
theorem flL_iff : ∀ ds : List D, D.flL ds = true ↔ ∀ d ∈ ds, d.fl = true
  | [] => by simp [D.flL]
  | d :: ds => by simp [D.flL, flL_iff ds]
theorem depL_le : ∀ (ds : List D) (n : Nat), D.depL ds ≤ n ↔ ∀ d ∈ ds, d.dep ≤ n
  | [], n => by simp [D.depL]
  | d :: ds, n => by simp [D.depL, depL_le ds n, Nat.max_le]
theorem pyL_fl {f : D → Option PyData} : ∀ {ds : List D}, (∀ d ∈ ds, f d = some d.toPy) → pyL f ds = some (D.toPyL ds)
  | [], _ => rfl
  | d :: ds, h => by
    simp only [pyL, h d (List.mem_cons_self ..), pyL_fl (ds := ds) fun e m => h e (List.mem_cons_of_mem _ m), D.toPyL]
theorem py_fl (h : MH) : ∀ (n : Nat) (d : D), d.fl = true → d.dep < n → py n h d = some d.toPy := by
  intro n
  induction n with
  | zero => intro d _ l; exact absurd l (Nat.not_lt_zero _)
  | succ n ih =>
    intro d f l
    cases d with
    | tup ds =>
      simp only [py, D.toPy]
      have fd : ∀ e ∈ ds, e.fl = true := (flL_iff ds).mp (show D.flL ds = true from f)
      have ld : D.depL ds ≤ n - 1 := by
        have : D.depL ds + 1 < n + 1 := l
        omega
      have hn : 0 < n := by
        have : D.depL ds + 1 < n + 1 := l
        omega
      rw [pyL_fl fun e m => ih e (fd e m) (by have := (depL_le ds (n - 1)).mp ld e m; omega)]
      rfl
    | non => rfl
    | int i => rfl
    | str x => rfl
    | _ => cases f
mutual
theorem lay_fl : ∀ d : D, d.fl = true → d.toPy.canLay0 = true
  | .non, _ => rfl
  | .int _, _ => rfl
  | .str x, h => h
  | .tup ds, h => layL_fl ds h
  | .bl _, h => by cases h
  | .fls _, h => by cases h
  | .lst _, h => by cases h
theorem layL_fl : ∀ ds : List D, D.flL ds = true → PyData.canLayAll0 (D.toPyL ds) = true
  | [], _ => rfl
  | d :: ds, h => by
    obtain ⟨h1, h2⟩ := Bool.and_eq_true_iff.mp (show (D.fl d && D.flL ds) = true from h)
    exact Bool.and_eq_true_iff.mpr ⟨lay_fl d h1, layL_fl ds h2⟩
end
mutual
theorem dep_fl : ∀ d : D, d.toPy.depth = d.dep
  | .non => rfl
  | .int _ => rfl
  | .str x => rfl
  | .tup ds => by simp only [D.toPy, PyData.depth, D.dep, depL_fl ds]
  | .bl _ => rfl
  | .fls _ => rfl
  | .lst _ => rfl
theorem depL_fl : ∀ ds : List D, PyData.depthAll (D.toPyL ds) = D.depL ds
  | [] => rfl
  | d :: ds => by simp only [D.toPyL, PyData.depthAll, D.depL, dep_fl d, depL_fl ds]
end
mutual
theorem eqv_fl : ∀ d e : D, d.fl = true → e.fl = true → PyData.eqv d.toPy e.toPy = decide (d = e)
  | .non, e, _, he => by cases e <;> first | (cases he; done) | simp [D.toPy, PyData.eqv]
  | .int i, e, _, he => by
    cases e <;> first
      | (cases he; done)
      | (simp only [D.toPy, PyData.eqv, D.int.injEq]; exact Bool.beq_eq_decide_eq _ _)
      | simp [D.toPy, PyData.eqv]
  | .str x, e, _, he => by
    cases e <;> first
      | (cases he; done)
      | (simp only [D.toPy, PyData.eqv, D.str.injEq]; exact Bool.beq_eq_decide_eq _ _)
      | simp [D.toPy, PyData.eqv]
  | .tup ds, e, h, he => by
    cases e with
    | tup es => simp only [D.toPy, PyData.eqv, D.tup.injEq]; exact eqvL_fl ds es h he
    | non => simp [D.toPy, PyData.eqv]
    | int _ => simp [D.toPy, PyData.eqv]
    | str _ => simp [D.toPy, PyData.eqv]
    | _ => cases he
  | .bl _, _, h, _ => by cases h
  | .fls _, _, h, _ => by cases h
  | .lst _, _, h, _ => by cases h
theorem eqvL_fl : ∀ ds es : List D, D.flL ds = true → D.flL es = true → PyData.eqvAll (D.toPyL ds) (D.toPyL es) = decide (ds = es)
  | [], [], _, _ => by simp [D.toPyL, PyData.eqvAll]
  | [], e :: es, _, _ => by simp [D.toPyL, PyData.eqvAll]
  | d :: ds, [], _, _ => by simp [D.toPyL, PyData.eqvAll]
  | d :: ds, e :: es, h, he => by
    obtain ⟨h1, h2⟩ := Bool.and_eq_true_iff.mp (show (D.fl d && D.flL ds) = true from h)
    obtain ⟨k1, k2⟩ := Bool.and_eq_true_iff.mp (show (D.fl e && D.flL es) = true from he)
    simp only [D.toPyL, PyData.eqvAll, eqv_fl d e h1 k1, eqvL_fl ds es h2 k2, List.cons.injEq]
    simp
end
/-- flat and not deep -/
def Flat (d : D) : Prop := d.fl = true ∧ d.dep ≤ 30
def FlatL (ds : List D) : Prop := ∀ d ∈ ds, Flat d
theorem Flat.tup {ds : List D} (h : ∀ d ∈ ds, d.fl = true ∧ d.dep ≤ 29) : Flat (.tup ds) :=
  ⟨(flL_iff ds).mpr fun d m => (h d m).1, by have := (depL_le ds 29).mpr fun d m => (h d m).2; show D.depL ds + 1 ≤ 30; omega⟩
theorem sh_fl {d : D} (f : Flat d) : SeqAt.shaped d.toPy = true := by
  unfold SeqAt.shaped
  rw [lay_fl d f.1, dep_fl, Bool.true_and]
  exact decide_eq_true (by have := f.2; omega)
/-- how a value that may be a list of flat things reads -/
def PyOf (h : MH) (d : D) (p : PyData) : Prop := py 40 h d = some p ∧ SeqAt.shaped p = true
theorem pyof_fl {h : MH} {d : D} (f : Flat d) : PyOf h d d.toPy := ⟨py_fl h 40 d f.1 (by have := f.2; omega), sh_fl f⟩
theorem depL_lt {ds : List D} (f : FlatL ds) : D.depL ds ≤ 30 := (depL_le ds 30).mpr fun d m => (f d m).2
theorem flL_of {ds : List D} (f : FlatL ds) : D.flL ds = true := (flL_iff ds).mpr fun d m => (f d m).1
theorem sh_lst {ds : List D} (f : FlatL ds) : SeqAt.shaped (.list (D.toPyL ds)) = true := by
  unfold SeqAt.shaped
  rw [show (PyData.list (D.toPyL ds)).canLay0 = PyData.canLayAll0 (D.toPyL ds) from rfl, layL_fl ds (flL_of f), Bool.true_and]
  refine decide_eq_true ?_
  show PyData.depthAll (D.toPyL ds) + 1 ≤ 64
  rw [depL_fl]
  have := depL_lt f
  omega
theorem pyof_lst {h : MH} {n : Nat} {ds : List D} (e : h[n]? = some (.lst ds)) (f : FlatL ds) : PyOf h (.lst n) (.list (D.toPyL ds)) := by
  refine ⟨?_, sh_lst f⟩
  show (match h[n]? with | some (.lst ds) => (pyL (py 39 h) ds).map PyData.list | none => none) = _
  rw [e]
  show (pyL (py 39 h) ds).map PyData.list = _
  rw [pyL_fl fun d m => py_fl h 39 d (f d m).1 (by have := (f d m).2; omega)]
  rfl
theorem eqD_of {h : MH} {x y : D} {p q : PyData} (hx : PyOf h x p) (hy : PyOf h y q) (nx : ∀ i, x ≠ .int i := by intro i z; cases z) : eqD x y h = some (PyData.eqv p q) := by
  unfold eqD
  split
  · exact absurd rfl (nx _)
  · rw [hx.1, hy.1]
    simp only [hx.2, hy.2, Bool.and_self, if_true]
theorem eqD_fl {h : MH} {x y : D} (hx : Flat x) (hy : Flat y) : eqD x y h = some (decide (x = y)) := by
  unfold eqD
  split
  · simp
  · rw [(pyof_fl (h := h) hx).1, (pyof_fl (h := h) hy).1]
    simp only [sh_fl hx, sh_fl hy, Bool.and_self, if_true, eqv_fl x y hx.1 hy.1]
theorem v_eq {h : MH} {x y : D} (hx : Flat x) (hy : Flat y) : dEq x y h = .ok (.bl (decide (x = y))) h := by simp [dEq, eqD_fl hx hy]
theorem v_ne {h : MH} {x y : D} (hx : Flat x) (hy : Flat y) : dNe x y h = .ok (.bl (!decide (x = y))) h := by simp [dNe, eqD_fl hx hy]
theorem eqD_lst {h : MH} {n m : Nat} {ds es : List D} (e1 : h[n]? = some (.lst ds)) (e2 : h[m]? = some (.lst es)) (f1 : FlatL ds) (f2 : FlatL es) : eqD (.lst n) (.lst m) h = some (decide (ds = es)) := by
  rw [eqD_of (pyof_lst e1 f1) (pyof_lst e2 f2)]
  rw [show PyData.eqv (.list (D.toPyL ds)) (.list (D.toPyL es)) = PyData.eqvAll (D.toPyL ds) (D.toPyL es) by rw [PyData.eqv]]
  rw [eqvL_fl ds es (flL_of f1) (flL_of f2)]
theorem v_eqL {h : MH} {n m : Nat} {ds es : List D} (e1 : h[n]? = some (.lst ds)) (e2 : h[m]? = some (.lst es)) (f1 : FlatL ds) (f2 : FlatL es) : dEq (.lst n) (.lst m) h = .ok (.bl (decide (ds = es))) h := by simp [dEq, eqD_lst e1 e2 f1 f2]
theorem v_neL {h : MH} {n m : Nat} {ds es : List D} (e1 : h[n]? = some (.lst ds)) (e2 : h[m]? = some (.lst es)) (f1 : FlatL ds) (f2 : FlatL es) : dNe (.lst n) (.lst m) h = .ok (.bl (!decide (ds = es))) h := by simp [dNe, eqD_lst e1 e2 f1 f2]
/-! lists of truth values -/
theorem toPyB (bs : List Bool) (f : D → Option PyData) (hf : ∀ b, f (.bl b) = some (.bool b)) : pyL f (bs.map D.bl) = some (bs.map PyData.bool) := by
  induction bs with
  | nil => rfl
  | cons b bs ih => simp [pyL, hf, ih]
theorem eqvB : ∀ as bs : List Bool, PyData.eqvAll (as.map .bool) (bs.map .bool) = decide (as = bs)
  | [], [] => by simp [PyData.eqvAll]
  | [], _ :: _ => by simp [PyData.eqvAll]
  | _ :: _, [] => by simp [PyData.eqvAll]
  | a :: as, b :: bs => by
    simp only [List.map_cons, PyData.eqvAll, PyData.eqv, eqvB as bs, List.cons.injEq]
    cases a <;> cases b <;> simp
theorem layB (bs : List Bool) : PyData.canLayAll0 (bs.map .bool) = true ∧ PyData.depthAll (bs.map .bool) = 0 := by
  induction bs with
  | nil => exact ⟨rfl, rfl⟩
  | cons b bs ih => exact ⟨by simp [PyData.canLayAll0, PyData.canLay0, ih.1], by simp [PyData.depthAll, PyData.depth, ih.2]⟩
theorem pyof_bls {h : MH} {n : Nat} {bs : List Bool} (e : h[n]? = some (.lst (bs.map D.bl))) : PyOf h (.lst n) (.list (bs.map .bool)) := by
  constructor
  · show (match h[n]? with | some (.lst ds) => (pyL (py 39 h) ds).map PyData.list | none => none) = _
    rw [e]
    show (pyL (py 39 h) (bs.map D.bl)).map PyData.list = _
    rw [toPyB bs _ fun b => rfl]
    rfl
  · unfold SeqAt.shaped
    rw [show (PyData.list (bs.map .bool)).canLay0 = PyData.canLayAll0 (bs.map .bool) from rfl, (layB bs).1, Bool.true_and]
    refine decide_eq_true ?_
    show PyData.depthAll (bs.map .bool) + 1 ≤ 64
    rw [(layB bs).2]
    omega
theorem v_neBL {h : MH} {n m : Nat} {as bs : List Bool} (e1 : h[n]? = some (.lst (as.map D.bl))) (e2 : h[m]? = some (.lst (bs.map D.bl))) : dNe (.lst n) (.lst m) h = .ok (.bl (!decide (as = bs))) h := by
  unfold dNe
  rw [eqD_of (pyof_bls e1) (pyof_bls e2), show PyData.eqv (.list (as.map .bool)) (.list (bs.map .bool)) = PyData.eqvAll (as.map .bool) (bs.map .bool) by rw [PyData.eqv], eqvB]
theorem v_eqBL {h : MH} {n m : Nat} {as bs : List Bool} (e1 : h[n]? = some (.lst (as.map D.bl))) (e2 : h[m]? = some (.lst (bs.map D.bl))) : dEq (.lst n) (.lst m) h = .ok (.bl (decide (as = bs))) h := by
  unfold dEq
  rw [eqD_of (pyof_bls e1) (pyof_bls e2), show PyData.eqv (.list (as.map .bool)) (.list (bs.map .bool)) = PyData.eqvAll (as.map .bool) (bs.map .bool) by rw [PyData.eqv], eqvB]

/-! ### parts -/
def eQ (q : Rat) : D := .tup [.int q.num, .int (q.den : Int)]
def eR (qs : List Rat) : D := .tup (qs.map eQ)
theorem eQ_inj {p q : Rat} : eQ p = eQ q ↔ p = q := by
  constructor
  · intro h
    simp only [eQ, D.tup.injEq, List.cons.injEq, D.int.injEq, and_true] at h
    exact Rat.ext h.1 (by omega)
  · intro h; rw [h]
theorem eQs_inj {p q : List Rat} : p.map eQ = q.map eQ ↔ p = q := by
  constructor
  · intro h
    induction p generalizing q with
    | nil => cases q with
      | nil => rfl
      | cons a b => simp at h
    | cons a b ih => cases q with
      | nil => simp at h
      | cons c d =>
        simp only [List.map_cons, List.cons.injEq] at h
        rw [eQ_inj.mp h.1, ih h.2]
  · intro h; rw [h]
theorem eR_inj {p q : List Rat} : eR p = eR q ↔ p = q := by
  unfold eR
  rw [D.tup.injEq, eQs_inj]
@[simp] theorem eQ_pu (q : Rat) : (eQ q).pu = true := rfl
theorem eQs_pu (qs : List Rat) : D.puL (qs.map eQ) = true := (puL_iff _).mpr fun d m => by obtain ⟨q, _, rfl⟩ := List.mem_map.mp m; rfl
@[simp] theorem eR_pu (qs : List Rat) : (eR qs).pu = true := eQs_pu qs
theorem fl_eQ (q : Rat) : (eQ q).fl = true ∧ (eQ q).dep = 1 := ⟨rfl, rfl⟩
theorem flat_eQ (q : Rat) : Flat (eQ q) := ⟨rfl, by simp [eQ, D.dep, D.depL]⟩
theorem flatL_eQs (qs : List Rat) : FlatL (qs.map eQ) := fun d m => by obtain ⟨q, _, rfl⟩ := List.mem_map.mp m; exact flat_eQ q
theorem flat_eR (qs : List Rat) : Flat (eR qs) := Flat.tup fun d m => by
  obtain ⟨q, _, rfl⟩ := List.mem_map.mp m
  exact ⟨rfl, by simp [eQ, D.dep, D.depL]⟩
/-- not larger than n bits -/
def Sz (n : Nat) (q : Rat) : Prop := q.num.natAbs < 2 ^ n ∧ q.den < 2 ^ n
abbrev Ok (q : Rat) : Prop := Sz 4000 q
theorem Sz.mono {n m : Nat} {q : Rat} (h : Sz n q) (l : n ≤ m) : Sz m q := ⟨Nat.lt_of_lt_of_le h.1 (Nat.pow_le_pow_right (by decide) l), Nat.lt_of_lt_of_le h.2 (Nat.pow_le_pow_right (by decide) l)⟩
theorem log2_le {n k : Nat} (h : k < 2 ^ n) : k.log2 ≤ n := by
  by_cases h0 : k = 0
  · subst h0; simp
  · exact Nat.le_of_lt ((Nat.log2_lt h0).mpr h)
theorem mulOk_of {n m : Nat} {i j : Int} (hi : i.natAbs < 2 ^ n) (hj : j.natAbs < 2 ^ m) (l : n + m < 1000000) : mulOk i j = true := by
  unfold mulOk
  rw [Bool.or_eq_true]
  exact .inl (decide_eq_true (by have := log2_le hi; have := log2_le hj; omega))
theorem divOk_of {n : Nat} {j : Int} (h0 : j ≠ 0) (hj : j.natAbs < 2 ^ n) (l : n < 9000) : divOk j = true := by
  unfold divOk
  rw [Bool.and_eq_true]
  exact ⟨decide_eq_true h0, decide_eq_true (by have := log2_le hj; omega)⟩
theorem two_pow_pos (n : Nat) : 0 < 2 ^ n := Nat.pow_pos (by decide)
theorem mul_lt_pow {a b n m : Nat} (ha : a < 2 ^ n) (hb : b < 2 ^ m) : a * b < 2 ^ (n + m) := by
  rw [Nat.pow_add]
  exact Nat.mul_lt_mul'' ha hb
theorem sz_divInt {n : Nat} {a b : Int} (hb : b ≠ 0) (h1 : a.natAbs < 2 ^ n) (h2 : b.natAbs < 2 ^ n) : Sz n (Rat.divInt a b) := by
  constructor
  · rw [Rat.num_divInt]
    refine Nat.lt_of_le_of_lt ?_ h1
    rw [Int.natAbs_ediv_of_dvd]
    · refine Nat.le_trans (Nat.div_le_self _ _) ?_
      rw [Int.natAbs_mul, Int.natAbs_sign_of_ne_zero hb, Nat.one_mul]
      exact Nat.le_refl _
    · exact Int.dvd_mul_of_dvd_right (Int.gcd_dvd_right ..)
  · rw [Rat.den_divInt, if_neg hb]
    exact Nat.lt_of_le_of_lt (Nat.div_le_self _ _) h2
theorem den_ne (q : Rat) : (q.den : Int) ≠ 0 := by have := q.den_nz; omega
theorem add_divInt (p q : Rat) : Rat.divInt (p.num * q.den + q.num * p.den) (p.den * q.den) = p + q := by
  rw [Rat.add_def', ← Rat.divInt_ofNat]; simp
theorem sub_divInt (p q : Rat) : Rat.divInt (p.num * q.den - q.num * p.den) (p.den * q.den) = p - q := by
  rw [Rat.sub_def', ← Rat.divInt_ofNat]; simp
theorem mul_divInt (p q : Rat) : Rat.divInt (p.num * q.num) (p.den * q.den) = p * q := by
  rw [Rat.mul_def', ← Rat.divInt_ofNat]; simp
theorem div_divInt (p q : Rat) : Rat.divInt (p.num * q.den) (p.den * q.num) = p / q := by
  rw [Rat.div_def, Rat.inv_def]
  conv => rhs; rw [← Rat.num_divInt_den p]
  rw [Rat.divInt_mul_divInt]
theorem sz_add {n m : Nat} {p q : Rat} (hp : Sz n p) (hq : Sz m q) : Sz (n + m + 1) (p + q) := by
  rw [← add_divInt]
  have a1 := mul_lt_pow hp.1 hq.2
  have a2 := mul_lt_pow hq.1 hp.2
  have a3 := mul_lt_pow hp.2 hq.2
  rw [Nat.add_comm m n] at a2
  refine sz_divInt ?_ ?_ ?_
  · exact Int.mul_ne_zero (den_ne p) (den_ne q)
  · refine Nat.lt_of_le_of_lt (Int.natAbs_add_le _ _) ?_
    rw [Int.natAbs_mul, Int.natAbs_mul, Int.natAbs_natCast, Int.natAbs_natCast, Nat.pow_succ]
    omega
  · rw [Int.natAbs_mul, Int.natAbs_natCast, Int.natAbs_natCast, Nat.pow_succ]
    omega
theorem sz_neg {n : Nat} {p : Rat} (hp : Sz n p) : Sz n (-p) := by
  constructor
  · show (-p.num).natAbs < _; rw [Int.natAbs_neg]; exact hp.1
  · exact hp.2
theorem sz_sub {n m : Nat} {p q : Rat} (hp : Sz n p) (hq : Sz m q) : Sz (n + m + 1) (p - q) := by
  rw [Rat.sub_eq_add_neg]; exact sz_add hp (sz_neg hq)
theorem sz_mul {n m : Nat} {p q : Rat} (hp : Sz n p) (hq : Sz m q) : Sz (n + m) (p * q) := by
  rw [← mul_divInt]
  refine sz_divInt (Int.mul_ne_zero (den_ne p) (den_ne q)) ?_ ?_
  · rw [Int.natAbs_mul]; exact mul_lt_pow hp.1 hq.1
  · rw [Int.natAbs_mul]; exact mul_lt_pow hp.2 hq.2
theorem sz_inv {n : Nat} {p : Rat} (hp : Sz n p) : Sz n p⁻¹ := by
  by_cases h0 : p = 0
  · subst h0
    rw [show (0 : Rat)⁻¹ = 0 by simp [Rat.inv_def]]
    exact hp
  · rw [Rat.inv_def]
    exact sz_divInt (fun z => h0 (Rat.num_eq_zero.mp z)) (by rw [Int.natAbs_natCast]; exact hp.2) hp.1
theorem sz_div {n m : Nat} {p q : Rat} (hp : Sz n p) (hq : Sz m q) : Sz (n + m) (p / q) := by
  rw [Rat.div_def]; exact sz_mul hp (sz_inv hq)
theorem sz_int {n : Nat} {i : Int} (h : i.natAbs < 2 ^ n) (hn : 0 < n) : Sz n (i : Rat) := ⟨h, by show 1 < 2 ^ n; exact Nat.one_lt_two_pow (by omega)⟩
theorem sz_0 : Sz 1 (0 : Rat) := ⟨by decide, by decide⟩
theorem sz_1 : Sz 1 (1 : Rat) := ⟨by decide, by decide⟩
end Sm

/-! Sq: what the laws share: the parts and the state. Definitions printed by gen.py --lib; their equations. -/
namespace Sq
open PySem PySem.Spec PyProof.Rows L2 Sm
/-! divisor -/
noncomputable def b_divisor : FS :=
  (fSeq (fPar 0 1 (fCons (fCB cAbs (fCons (fVar 0) fNil)) (fCons (fCB cAbs (fCons (fVar 1) fNil)) fNil))) (fSeq (fWhile (fTst (fOp dNe (fVar 1) (fC (.int 0)))) (fPar 0 1 (fCons (fVar 1) (fCons (fOp dMod (fVar 0) (fVar 1)) fNil)))) (fRet (fVar 0))))
noncomputable def m_divisor : DCl := mOf 2 b_divisor
/-! part -/
noncomputable def b_part : FS :=
  (fSeq (fIf (fTst (fOp dLt (fVar 1) (fC (.int 0)))) (fPar 0 1 (fCons (fOp dSub (fC (.int 0)) (fVar 0)) (fCons (fOp dSub (fC (.int 0)) (fVar 1)) fNil))) fNx) (fSeq (fSet 2 (fGc (fCall 2 m_divisor (fCons (fVar 0) (fCons (fVar 1) fNil))))) (fRet (fTup (fCons (fOp dFdiv (fVar 0) (fVar 2)) (fCons (fOp dFdiv (fVar 1) (fVar 2)) fNil))))))
noncomputable def m_part : DCl := mOf 3 b_part
/-! is_part -/
noncomputable def b_is_part : FS :=
  (fSeq (fIf (fOrT (fNotT (fTru (fIsi "tuple" (fVar 0)))) (fTst (fOp dNe (fCB cLen (fCons (fVar 0) fNil)) (fC (.int 2))))) (fRet (fC (.bl false))) fNx) (fSeq (fIf (fNotT (fTru (fGc (fCB cAll (fCons (fGc (fLc [1] (iSeq (fVar 0)) (gNm 1) fYes (fAndV (fIsi "int" (fVar 1)) (fNotV (fIsi "bool" (fVar 1)))))) fNil))))) (fRet (fC (.bl false))) fNx) (fRet (fAndV (fOp dGe (fOp dIx (fVar 0) (fC (.int 1))) (fC (.int 1))) (fGc (fOp dEq (fGc (fCall 2 m_divisor (fCons (fOp dIx (fVar 0) (fC (.int 0))) (fCons (fOp dIx (fVar 0) (fC (.int 1))) fNil)))) (fC (.int 1))))))))
noncomputable def m_is_part : DCl := mOf 2 b_is_part
/-! are_parts -/
noncomputable def b_are_parts : FS :=
  (fRet (fAndV (fIsi "tuple" (fVar 0)) (fAndV (fOp dEq (fCB cLen (fCons (fVar 0) fNil)) (fVar 1)) (fGc (fCB cAll (fCons (fGc (fLc [2] (iSeq (fVar 0)) (gNm 2) fYes (fGc (fCall 1 m_is_part (fCons (fVar 2) fNil))))) fNil))))))
noncomputable def m_are_parts : DCl := mOf 3 b_are_parts
/-! plus -/
noncomputable def b_plus : FS :=
  (fRet (fGc (fCall 2 m_part (fCons (fOp dAdd (fOp dMul (fOp dIx (fVar 0) (fC (.int 0))) (fOp dIx (fVar 1) (fC (.int 1)))) (fOp dMul (fOp dIx (fVar 1) (fC (.int 0))) (fOp dIx (fVar 0) (fC (.int 1))))) (fCons (fOp dMul (fOp dIx (fVar 0) (fC (.int 1))) (fOp dIx (fVar 1) (fC (.int 1)))) fNil)))))
noncomputable def m_plus : DCl := mOf 2 b_plus
/-! minus -/
noncomputable def b_minus : FS :=
  (fRet (fGc (fCall 2 m_part (fCons (fOp dSub (fOp dMul (fOp dIx (fVar 0) (fC (.int 0))) (fOp dIx (fVar 1) (fC (.int 1)))) (fOp dMul (fOp dIx (fVar 1) (fC (.int 0))) (fOp dIx (fVar 0) (fC (.int 1))))) (fCons (fOp dMul (fOp dIx (fVar 0) (fC (.int 1))) (fOp dIx (fVar 1) (fC (.int 1)))) fNil)))))
noncomputable def m_minus : DCl := mOf 2 b_minus
/-! times -/
noncomputable def b_times : FS :=
  (fRet (fGc (fCall 2 m_part (fCons (fOp dMul (fOp dIx (fVar 0) (fC (.int 0))) (fOp dIx (fVar 1) (fC (.int 0)))) (fCons (fOp dMul (fOp dIx (fVar 0) (fC (.int 1))) (fOp dIx (fVar 1) (fC (.int 1)))) fNil)))))
noncomputable def m_times : DCl := mOf 2 b_times
/-! over -/
noncomputable def b_over : FS :=
  (fRet (fGc (fCall 2 m_part (fCons (fOp dMul (fOp dIx (fVar 0) (fC (.int 0))) (fOp dIx (fVar 1) (fC (.int 1)))) (fCons (fOp dMul (fOp dIx (fVar 0) (fC (.int 1))) (fOp dIx (fVar 1) (fC (.int 0)))) fNil)))))
noncomputable def m_over : DCl := mOf 2 b_over
/-! negative -/
def b_negative : FS :=
  (fRet (fTup (fCons (fOp dSub (fC (.int 0)) (fOp dIx (fVar 0) (fC (.int 0)))) (fCons (fOp dIx (fVar 0) (fC (.int 1))) fNil))))
def m_negative : DCl := mOf 1 b_negative
/-! is_less -/
def b_is_less : FS :=
  (fRet (fOp dLt (fOp dMul (fOp dIx (fVar 0) (fC (.int 0))) (fOp dIx (fVar 1) (fC (.int 1)))) (fOp dMul (fOp dIx (fVar 1) (fC (.int 0))) (fOp dIx (fVar 0) (fC (.int 1))))))
def m_is_less : DCl := mOf 2 b_is_less
/-! least -/
def b_least : FS :=
  (fSeq (fSet 1 (fC .non)) (fSeq (fFor (iSeq (fVar 0)) (gNm 2) (fSet 1 (fIfE (fOrT (fTst (fOp dIs (fVar 1) (fC .non))) (fTru (fGc (fCall 2 m_is_less (fCons (fVar 2) (fCons (fVar 1) fNil)))))) (fVar 2) (fVar 1)))) (fRet (fVar 1))))
def m_least : DCl := mOf 3 b_least
/-! total -/
noncomputable def b_total : FS :=
  (fSeq (fSet 1 (fTup (fCons (fC (.int 0)) (fCons (fC (.int 1)) fNil)))) (fSeq (fFor (iSeq (fVar 0)) (gNm 2) (fSet 1 (fGc (fCall 2 m_plus (fCons (fVar 1) (fCons (fVar 2) fNil)))))) (fRet (fVar 1))))
noncomputable def m_total : DCl := mOf 3 b_total
/-! dot -/
noncomputable def b_dot : FS :=
  (fRet (fGc (fCall 1 m_total (fCons (fGc (fLc [2] (iRg1 (fCB cLen (fCons (fVar 0) fNil))) (gNm 2) fYes (fGc (fCall 2 m_times (fCons (fOp dIx (fVar 0) (fVar 2)) (fCons (fOp dIx (fVar 1) (fVar 2)) fNil)))))) fNil))))
noncomputable def m_dot : DCl := mOf 3 b_dot
/-! ahead -/
def b_ahead : FS :=
  (fRet (fGc (fLc [2] (iRg1 (fCB cLen (fCons (fOp dIx (fVar 0) (fC (.int 2))) fNil))) (gNm 2) (fTst (fOp dEq (fOp dIx (fOp dIx (fOp dIx (fVar 0) (fC (.int 2))) (fVar 2)) (fC (.int 0))) (fVar 1))) (fVar 2))))
def m_ahead : DCl := mOf 3 b_ahead
/-! is_last -/
def b_is_last : FS :=
  (fRet (fGc (fOp dEq (fGc (fCB cLen (fCons (fGc (fCall 2 m_ahead (fCons (fVar 0) (fCons (fVar 1) fNil)))) fNil))) (fC (.int 0)))))
def m_is_last : DCl := mOf 2 b_is_last
/-! _law_state -/
def b_Lstate : FS :=
  (fSeq (fSet 1 (fGc (fLc [2] (iSeq (fSl (fVar 0) fNo (fSo (fC (.int 63))))) (gNm 2) fYes (fCB cAbs (fCons (fVar 2) fNil))))) (fSeq (fIf (fTst (fOp dEq (fCB cLen (fCons (fVar 1) fNil)) (fC (.int 0)))) (fSet 1 (fLst (fCons (fC (.int 0)) fNil))) fNx) (fRet (fLst (fCons (fC (.int 0)) (fCons (fVar 1) fNil))))))
def m_Lstate : DCl := mOf 3 b_Lstate
/-! _law_take -/
def b_Ltake : FS :=
  (fSeq (fIf (fTst (fOp dLt (fVar 1) (fC (.int 2)))) (fRet (fC (.int 0))) fNx) (fSeq (fSet 2 (fOp dIx (fVar 0) (fC (.int 1)))) (fSeq (fSet 3 (fOp dMod (fCB cInt (fCons (fOp dIx (fVar 0) (fC (.int 0))) fNil)) (fCB cLen (fCons (fVar 2) fNil)))) (fSeq (fSet 4 (fOp dIx (fVar 2) (fVar 3))) (fSeq (fIf (fTst (fOp dGe (fVar 4) (fC (.int 1000000000000000000)))) (fSeq (fAsg (fOp dFdiv (fVar 4) (fVar 1)) (gSb (fVar 2) (fVar 3))) (fRet (fOp dMod (fCB cInt (fCons (fVar 4) fNil)) (fVar 1)))) fNx) (fSeq (fAsg (fOp dAdd (fOp dIx (fVar 0) (fC (.int 0))) (fC (.int 1))) (gSb (fVar 0) (fC (.int 0)))) (fSeq (fSet 5 (fOp dMod (fCB cInt (fCons (fOp dAdd (fOp dMul (fVar 4) (fC (.int 48271))) (fOp dMul (fOp dIx (fVar 0) (fC (.int 0))) (fC (.int 69621)))) fNil)) (fC (.int 2147483647)))) (fSeq (fSet 5 (fOp dMod (fCB cInt (fCons (fOp dAdd (fOp dMul (fVar 5) (fC (.int 16807))) (fOp dMul (fOp dIx (fVar 0) (fC (.int 0))) (fC (.int 7919)))) fNil)) (fC (.int 1000000007)))) (fRet (fOp dMod (fCB cInt (fCons (fOp dFdiv (fVar 5) (fC (.int 7))) fNil)) (fVar 1)))))))))))
def m_Ltake : DCl := mOf 6 b_Ltake
/-! _law_pick -/
def b_Lpick : FS :=
  (fRet (fOp dIx (fVar 1) (fGc (fCall 2 m_Ltake (fCons (fVar 0) (fCons (fCB cLen (fCons (fVar 1) fNil)) fNil))))))
def m_Lpick : DCl := mOf 2 b_Lpick
/-! _law_part -/
noncomputable def b_Lpart : FS :=
  (fSeq (fPar 2 3 (fCons (fCB cAbs (fCons (fVar 0) fNil)) (fCons (fCB cAbs (fCons (fVar 1) fNil)) fNil))) (fSeq (fWhile (fTst (fOp dNe (fVar 3) (fC (.int 0)))) (fPar 2 3 (fCons (fVar 3) (fCons (fOp dMod (fCB cInt (fCons (fVar 2) fNil)) (fVar 3)) fNil)))) (fSeq (fSet 2 (fIfE (fTst (fOp dLt (fVar 1) (fC (.int 0)))) (fOp dSub (fC (.int 0)) (fVar 2)) (fVar 2))) (fRet (fTup (fCons (fOp dFdiv (fVar 0) (fVar 2)) (fCons (fOp dFdiv (fVar 1) (fVar 2)) fNil)))))))
noncomputable def m_Lpart : DCl := mOf 4 b_Lpart
/-! _law_add -/
noncomputable def b_Ladd : FS :=
  (fRet (fGc (fCall 2 m_Lpart (fCons (fOp dAdd (fOp dMul (fOp dIx (fVar 0) (fC (.int 0))) (fOp dIx (fVar 1) (fC (.int 1)))) (fOp dMul (fOp dIx (fVar 1) (fC (.int 0))) (fOp dIx (fVar 0) (fC (.int 1))))) (fCons (fOp dMul (fOp dIx (fVar 0) (fC (.int 1))) (fOp dIx (fVar 1) (fC (.int 1)))) fNil)))))
noncomputable def m_Ladd : DCl := mOf 2 b_Ladd
/-! _law_mul -/
noncomputable def b_Lmul : FS :=
  (fRet (fGc (fCall 2 m_Lpart (fCons (fOp dMul (fOp dIx (fVar 0) (fC (.int 0))) (fOp dIx (fVar 1) (fC (.int 0)))) (fCons (fOp dMul (fOp dIx (fVar 0) (fC (.int 1))) (fOp dIx (fVar 1) (fC (.int 1)))) fNil)))))
noncomputable def m_Lmul : DCl := mOf 2 b_Lmul
/-! _law_neg -/
def b_Lneg : FS :=
  (fRet (fTup (fCons (fOp dSub (fC (.int 0)) (fOp dIx (fVar 0) (fC (.int 0)))) (fCons (fOp dIx (fVar 0) (fC (.int 1))) fNil))))
def m_Lneg : DCl := mOf 1 b_Lneg
/-! _law_over -/
noncomputable def b_Lover : FS :=
  (fRet (fGc (fCall 2 m_Lpart (fCons (fOp dMul (fOp dIx (fVar 0) (fC (.int 0))) (fOp dIx (fVar 1) (fC (.int 1)))) (fCons (fOp dMul (fOp dIx (fVar 0) (fC (.int 1))) (fOp dIx (fVar 1) (fC (.int 0)))) fNil)))))
noncomputable def m_Lover : DCl := mOf 2 b_Lover
/-! _law_less -/
def b_Lless : FS :=
  (fRet (fOp dLt (fOp dMul (fOp dIx (fVar 0) (fC (.int 0))) (fOp dIx (fVar 1) (fC (.int 1)))) (fOp dMul (fOp dIx (fVar 1) (fC (.int 0))) (fOp dIx (fVar 0) (fC (.int 1))))))
def m_Lless : DCl := mOf 2 b_Lless
/-! _law_total -/
noncomputable def b_Ltotal : FS :=
  (fSeq (fSet 1 (fTup (fCons (fC (.int 0)) (fCons (fC (.int 1)) fNil)))) (fSeq (fFor (iSeq (fVar 0)) (gNm 2) (fSet 1 (fGc (fCall 2 m_Ladd (fCons (fVar 1) (fCons (fVar 2) fNil)))))) (fRet (fVar 1))))
noncomputable def m_Ltotal : DCl := mOf 3 b_Ltotal
/-! _law_dot -/
noncomputable def b_Ldot : FS :=
  (fRet (fGc (fCall 1 m_Ltotal (fCons (fGc (fLc [2] (iRg1 (fCB cLen (fCons (fVar 0) fNil))) (gNm 2) fYes (fGc (fCall 2 m_Lmul (fCons (fOp dIx (fVar 0) (fVar 2)) (fCons (fOp dIx (fVar 1) (fVar 2)) fNil)))))) fNil))))
noncomputable def m_Ldot : DCl := mOf 3 b_Ldot
/-! _law_most -/
def b_Lmost : FS :=
  (fSeq (fSet 1 (fOp dIx (fVar 0) (fC (.int 0)))) (fSeq (fFor (iSeq (fVar 0)) (gNm 2) (fSet 1 (fIfE (fTru (fGc (fCall 2 m_Lless (fCons (fVar 1) (fCons (fVar 2) fNil))))) (fVar 2) (fVar 1)))) (fRet (fVar 1))))
def m_Lmost : DCl := mOf 3 b_Lmost
/-! _law_least -/
def b_Lleast : FS :=
  (fSeq (fSet 1 (fOp dIx (fVar 0) (fC (.int 0)))) (fSeq (fFor (iSeq (fVar 0)) (gNm 2) (fSet 1 (fIfE (fTru (fGc (fCall 2 m_Lless (fCons (fVar 2) (fCons (fVar 1) fNil))))) (fVar 2) (fVar 1)))) (fRet (fVar 1))))
def m_Lleast : DCl := mOf 3 b_Lleast
/-! _law_fraction -/
noncomputable def b_Lfraction : FS :=
  (fRet (fGc (fCall 2 m_Lpart (fCons (fOp dSub (fGc (fCall 2 m_Ltake (fCons (fVar 0) (fCons (fOp dAdd (fOp dMul (fC (.int 2)) (fVar 1)) (fC (.int 1))) fNil)))) (fVar 1)) (fCons (fGc (fOp dAdd (fC (.int 1)) (fGc (fCall 2 m_Ltake (fCons (fVar 0) (fCons (fC (.int 3)) fNil)))))) fNil)))))
noncomputable def m_Lfraction : DCl := mOf 2 b_Lfraction
/-! _law_kids -/
def b_Lkids : FS :=
  (fRet (fGc (fLc [2] (iRg1 (fCB cLen (fCons (fOp dIx (fVar 0) (fC (.int 2))) fNil))) (gNm 2) (fTst (fOp dEq (fOp dIx (fOp dIx (fOp dIx (fVar 0) (fC (.int 2))) (fVar 2)) (fC (.int 0))) (fVar 1))) (fVar 2))))
def m_Lkids : DCl := mOf 3 b_Lkids
/-! _law_road -/
noncomputable def b_Lroad : FS :=
  (fSeq (fSet 2 (fLst (fCons (fVar 1) fNil))) (fSeq (fWhile (fTst (fOp dIsNot (fOp dIx (fOp dIx (fOp dIx (fVar 0) (fC (.int 2))) (fOp dIx (fVar 2) (fC (.int 0)))) (fC (.int 0))) (fC .non))) (fSet 2 (fGc (fOp dAdd (fLst (fCons (fOp dIx (fOp dIx (fOp dIx (fVar 0) (fC (.int 2))) (fOp dIx (fVar 2) (fC (.int 0)))) (fC (.int 0))) fNil)) (fVar 2))))) (fRet (fVar 2))))
noncomputable def m_Lroad : DCl := mOf 3 b_Lroad
/-! _law_row -/
noncomputable def b_Lrow : FS :=
  (fRet (fGc (fCB cTup (fCons (fGc (fLc [2] (iSeq (fOp dIx (fVar 1) (fC (.int 2)))) (gNm 2) fYes (fGc (fCall 2 m_Lfraction (fCons (fVar 0) (fCons (fC (.int 3)) fNil)))))) fNil))))
noncomputable def m_Lrow : DCl := mOf 3 b_Lrow
/-! ### equations -/
@[simp] theorem startD_cons {n : Nat} {d : D} {ds : List D} : startD (n + 1) (d :: ds) = some d :: startD n ds := by simp [startD]
@[simp] theorem startD_nil {n : Nat} : startD n [] = List.replicate n none := by simp [startD]
theorem fmod_nat (x y : Nat) : Int.fmod (x : Int) (y : Int) = ((x % y : Nat) : Int) := by
  rw [Int.fmod_eq_emod_of_nonneg _ (by omega)]; rfl
theorem v_modN {x y : Nat} {h : MH} (c : y ≠ 0) : dMod (.int (x : Int)) (.int (y : Int)) h = .ok (.int ((x % y : Nat) : Int)) h := by
  rw [Sm.v_mod (by omega), fmod_nat]
theorem e_divisor (a b : Int) (h : MH) : m_divisor [.int a, .int b] h = .ok (.int (Int.gcd a b : Nat)) h := by
  unfold m_divisor mOf b_divisor
  simp only [startD_cons, startD_nil, List.replicate_zero, ev_seq, ev_par, ev_cons, ev_cb, ev_var, ev_nil, List.getElem?_cons_zero, List.getElem?_cons_succ, bind_ok, v_abs, List.set_cons_zero, List.set_cons_succ]
  obtain ⟨m', σ', h', e, ⟨x, rfl, rfl, hg⟩, hc⟩ := fWhile_inv (c := fTst (fOp dNe (fVar 1) (fC (.int 0)))) (b := fPar 0 1 (fCons (fVar 1) (fCons (fOp dMod (fVar 0) (fVar 1)) fNil)))
    (fun m σ h' => ∃ x : Nat, σ = [some (.int x), some (.int m)] ∧ h' = h ∧ Nat.gcd x m = Int.gcd a b) [some (.int a.natAbs), some (.int b.natAbs)] h b.natAbs ⟨a.natAbs, rfl, rfl, rfl⟩ (by
      rintro m σ _ ⟨x, rfl, rfl, hg⟩
      by_cases hm : m = 0
      · subst hm
        left
        exact ⟨_, by simp, rfl⟩
      · right
        refine ⟨by simp [hm], x % m, _, _, Nat.mod_lt _ (by omega), ?_, m, rfl, rfl, ?_⟩
        · simp only [ev_par, ev_cons, ev_var, ev_op, ev_nil, List.getElem?_cons_zero, List.getElem?_cons_succ, bind_ok, v_modN hm, List.set_cons_zero, List.set_cons_succ]
        · rw [← hg, Nat.gcd_comm x m, Nat.gcd_rec m x, Nat.gcd_comm])
  have hm : m' = 0 := by
    simp only [ev_tst, ev_op, ev_var, List.getElem?_cons_succ, List.getElem?_cons_zero, bind_ok, ev_c, v_neI, ev_toB, Res.ok.injEq] at hc
    have := hc.1
    simp at this
    omega
  subst hm
  rw [e]
  simp only [bind_ok, ev_ret, ev_var, List.getElem?_cons_zero, ev_retR_rt, gc_same]
  rw [← hg, Nat.gcd_zero_right]
/-- the part a / b -/
abbrev Q (a b : Int) : Rat := Rat.divInt a b
theorem fdiv_gcd {a : Int} {g : Nat} (hg : (g : Int) ∣ a) : Int.fdiv a g = a / g := Int.fdiv_eq_ediv_of_nonneg _ (by omega)
theorem eQ_divInt {a b : Int} (hb : b ≠ 0) : eQ (Q a b) = .tup [.int ((if b < 0 then -a else a) / (Int.gcd a b : Nat)), .int ((b.natAbs : Int) / (Int.gcd a b : Nat))] := by
  have h1 := Rat.num_divInt a b
  have h2 := Rat.den_divInt a b
  rw [if_neg hb] at h2
  unfold eQ Q
  rw [h1, h2, Int.gcd_comm b a]
  congr 3
  · by_cases l : b < 0
    · rw [if_pos l, Int.sign_eq_neg_one_of_neg l]; simp
    · rw [if_neg l, Int.sign_eq_one_of_pos (by omega)]; simp
theorem gcd_pos {a b : Int} (hb : b ≠ 0) : 0 < Int.gcd a b := Int.gcd_pos_of_ne_zero_right _ hb
theorem gcd_le {a b : Int} (hb : b ≠ 0) : Int.gcd a b ≤ b.natAbs := by
  rw [Int.gcd_comm]
  exact Nat.gcd_le_left _ (by omega)
theorem e_part {a b : Int} (hb : b ≠ 0) (l : b.natAbs < 2 ^ 8999) (h : MH) : m_part [.int a, .int b] h = .ok (eQ (Q a b)) h := by
  have hd : divOk ((Int.gcd a b : Nat) : Int) = true := divOk_of (n := 8999) (by have := gcd_pos (a := a) hb; omega) (by rw [Int.natAbs_natCast]; exact Nat.lt_of_le_of_lt (gcd_le hb) l) (by decide)
  have d1 : ((Int.gcd a b : Nat) : Int) ∣ a := Int.gcd_dvd_left ..
  have d2 : ((Int.gcd a b : Nat) : Int) ∣ b := Int.gcd_dvd_right ..
  unfold m_part mOf b_part
  rw [eQ_divInt hb]
  by_cases c : b < 0
  · simp [c, dLt, e_divisor, v_fdiv hd]
    rw [fdiv_gcd (Int.dvd_neg.mpr d1), fdiv_gcd (Int.dvd_neg.mpr d2), show (-b) = (b.natAbs : Int) by omega]
    exact ⟨rfl, rfl⟩
  · simp [c, dLt, e_divisor, v_fdiv hd]
    rw [fdiv_gcd d1, fdiv_gcd d2, show b = (b.natAbs : Int) by omega]
    exact ⟨rfl, rfl⟩
theorem e_Lpart {a b : Int} (hb : b ≠ 0) (l : b.natAbs < 2 ^ 8999) (h : MH) : m_Lpart [.int a, .int b] h = .ok (eQ (Q a b)) h := by
  have hd : divOk ((Int.gcd a b : Nat) : Int) = true := divOk_of (n := 8999) (by have := gcd_pos (a := a) hb; omega) (by rw [Int.natAbs_natCast]; exact Nat.lt_of_le_of_lt (gcd_le hb) l) (by decide)
  have hd' : divOk (-((Int.gcd a b : Nat) : Int)) = true := divOk_of (n := 8999) (by have := gcd_pos (a := a) hb; omega) (by rw [Int.natAbs_neg, Int.natAbs_natCast]; exact Nat.lt_of_le_of_lt (gcd_le hb) l) (by decide)
  have d1 : ((Int.gcd a b : Nat) : Int) ∣ a := Int.gcd_dvd_left ..
  have d2 : ((Int.gcd a b : Nat) : Int) ∣ b := Int.gcd_dvd_right ..
  rw [eQ_divInt hb]
  unfold m_Lpart mOf b_Lpart
  obtain ⟨m', σ', h', e, ⟨x, rfl, rfl, hg⟩, hc⟩ := fWhile_inv (c := fTst (fOp dNe (fVar 3) (fC (.int 0)))) (b := fPar 2 3 (fCons (fVar 3) (fCons (fOp dMod (fCB cInt (fCons (fVar 2) fNil)) (fVar 3)) fNil)))
    (fun m σ h' => ∃ x : Nat, σ = [some (.int a), some (.int b), some (.int x), some (.int m)] ∧ h' = h ∧ Nat.gcd x m = Int.gcd a b) [some (.int a), some (.int b), some (.int a.natAbs), some (.int b.natAbs)] h b.natAbs ⟨a.natAbs, rfl, rfl, rfl⟩ (by
      rintro m σ _ ⟨x, rfl, rfl, hg⟩
      by_cases hm : m = 0
      · subst hm
        left
        exact ⟨_, by simp, rfl⟩
      · right
        refine ⟨by simp [hm], x % m, _, _, Nat.mod_lt _ (by omega), ?_, m, rfl, rfl, ?_⟩
        · simp only [ev_par, ev_cons, ev_var, ev_op, ev_nil, ev_cb, v_int, List.getElem?_cons_zero, List.getElem?_cons_succ, bind_ok, v_modN hm, List.set_cons_zero, List.set_cons_succ]
        · rw [← hg, Nat.gcd_comm x m, Nat.gcd_rec m x, Nat.gcd_comm])
  have hm : m' = 0 := by
    simp only [ev_tst, ev_op, ev_var, List.getElem?_cons_succ, List.getElem?_cons_zero, bind_ok, ev_c, v_neI, ev_toB, Res.ok.injEq] at hc
    have := hc.1
    simp at this
    omega
  subst hm
  rw [Nat.gcd_zero_right] at hg
  subst hg
  simp only [startD_cons, startD_nil, List.replicate_succ, List.replicate_zero, ev_seq, ev_par, ev_cons, ev_cb, ev_var, ev_nil, List.getElem?_cons_zero, List.getElem?_cons_succ, bind_ok, v_abs, List.set_cons_zero, List.set_cons_succ, e]
  by_cases c : b < 0
  · simp [c, dLt, v_fdiv hd']
    have hx : ∀ z : Int, z.fdiv (-((Int.gcd a b : Nat) : Int)) = (-z).fdiv ((Int.gcd a b : Nat) : Int) := fun z => by rw [← Int.neg_fdiv_neg, Int.neg_neg]
    rw [hx, hx, fdiv_gcd (Int.dvd_neg.mpr d1), fdiv_gcd (Int.dvd_neg.mpr d2), show (-b) = (b.natAbs : Int) by omega]
    exact ⟨rfl, rfl⟩
  · simp [c, dLt, v_fdiv hd]
    rw [fdiv_gcd d1, fdiv_gcd d2, show b = (b.natAbs : Int) by omega]
    exact ⟨rfl, rfl⟩
section
variable {p q : Rat}
theorem den_lt (hp : Ok p) (hq : Ok q) : ((p.den : Int) * q.den).natAbs < 2 ^ 8999 := by
  rw [Int.natAbs_mul, Int.natAbs_natCast, Int.natAbs_natCast]
  exact Nat.lt_trans (mul_lt_pow hp.2 hq.2) (Nat.pow_lt_pow_right (by decide) (by decide))
theorem den_ne' (p q : Rat) : (p.den : Int) * q.den ≠ 0 := Int.mul_ne_zero (den_ne p) (den_ne q)
theorem mo1 (hp : Ok p) (hq : Ok q) : mulOk p.num q.den = true := mulOk_of hp.1 (by rw [Int.natAbs_natCast]; exact hq.2) (by decide)
theorem mo2 (hp : Ok p) (hq : Ok q) : mulOk p.den q.den = true := mulOk_of (by rw [Int.natAbs_natCast]; exact hp.2) (by rw [Int.natAbs_natCast]; exact hq.2) (by decide)
theorem mo3 (hp : Ok p) (hq : Ok q) : mulOk p.num q.num = true := mulOk_of hp.1 hq.1 (by decide)
theorem mo4 (hp : Ok p) (hq : Ok q) : mulOk p.den q.num = true := mulOk_of (by rw [Int.natAbs_natCast]; exact hp.2) hq.1 (by decide)
theorem q_add (p q : Rat) : Q (p.num * q.den + q.num * p.den) (p.den * q.den) = p + q := add_divInt p q
theorem q_sub (p q : Rat) : Q (p.num * q.den - q.num * p.den) (p.den * q.den) = p - q := sub_divInt p q
theorem q_mul (p q : Rat) : Q (p.num * q.num) (p.den * q.den) = p * q := mul_divInt p q
theorem q_div (p q : Rat) : Q (p.num * q.den) (p.den * q.num) = p / q := div_divInt p q
theorem lt_iff (p q : Rat) : decide (p.num * q.den < q.num * p.den) = decide (p < q) := by
  rw [decide_eq_decide, Rat.lt_iff]
@[simp] theorem v_pn {h : MH} : dIx (eQ p) (.int 0) h = .ok (.int p.num) h := v_ix0
@[simp] theorem v_pd {h : MH} : dIx (eQ p) (.int 1) h = .ok (.int p.den) h := v_ix1
@[simp] theorem e_plus (hp : Ok p) (hq : Ok q) (h : MH) : m_plus [eQ p, eQ q] h = .ok (eQ (p + q)) h := by
  unfold m_plus mOf b_plus
  simp [v_mul (mo1 hp hq), v_mul (mo1 hq hp), v_mul (mo2 hp hq), e_part (den_ne' p q) (den_lt hp hq), q_add]
@[simp] theorem e_Ladd (hp : Ok p) (hq : Ok q) (h : MH) : m_Ladd [eQ p, eQ q] h = .ok (eQ (p + q)) h := by
  unfold m_Ladd mOf b_Ladd
  simp [v_mul (mo1 hp hq), v_mul (mo1 hq hp), v_mul (mo2 hp hq), e_Lpart (den_ne' p q) (den_lt hp hq), q_add]
@[simp] theorem e_minus (hp : Ok p) (hq : Ok q) (h : MH) : m_minus [eQ p, eQ q] h = .ok (eQ (p - q)) h := by
  unfold m_minus mOf b_minus
  simp [v_mul (mo1 hp hq), v_mul (mo1 hq hp), v_mul (mo2 hp hq), e_part (den_ne' p q) (den_lt hp hq), q_sub]
@[simp] theorem e_times (hp : Ok p) (hq : Ok q) (h : MH) : m_times [eQ p, eQ q] h = .ok (eQ (p * q)) h := by
  unfold m_times mOf b_times
  simp [v_mul (mo3 hp hq), v_mul (mo2 hp hq), e_part (den_ne' p q) (den_lt hp hq), q_mul]
@[simp] theorem e_Lmul (hp : Ok p) (hq : Ok q) (h : MH) : m_Lmul [eQ p, eQ q] h = .ok (eQ (p * q)) h := by
  unfold m_Lmul mOf b_Lmul
  simp [v_mul (mo3 hp hq), v_mul (mo2 hp hq), e_Lpart (den_ne' p q) (den_lt hp hq), q_mul]
theorem dn_ne (p : Rat) (h0 : q ≠ 0) : (p.den : Int) * q.num ≠ 0 := Int.mul_ne_zero (den_ne p) (fun z => h0 (Rat.num_eq_zero.mp z))
theorem dn_lt (hp : Ok p) (hq : Ok q) : ((p.den : Int) * q.num).natAbs < 2 ^ 8999 := by
  rw [Int.natAbs_mul, Int.natAbs_natCast]
  exact Nat.lt_trans (mul_lt_pow hp.2 hq.1) (Nat.pow_lt_pow_right (by decide) (by decide))
@[simp] theorem e_over (hp : Ok p) (hq : Ok q) (h0 : q ≠ 0) (h : MH) : m_over [eQ p, eQ q] h = .ok (eQ (p / q)) h := by
  unfold m_over mOf b_over
  simp [v_mul (mo1 hp hq), v_mul (mo4 hp hq), e_part (dn_ne p h0) (dn_lt hp hq), q_div]
@[simp] theorem e_Lover (hp : Ok p) (hq : Ok q) (h0 : q ≠ 0) (h : MH) : m_Lover [eQ p, eQ q] h = .ok (eQ (p / q)) h := by
  unfold m_Lover mOf b_Lover
  simp [v_mul (mo1 hp hq), v_mul (mo4 hp hq), e_Lpart (dn_ne p h0) (dn_lt hp hq), q_div]
@[simp] theorem e_negative (h : MH) : m_negative [eQ p] h = .ok (eQ (-p)) h := by
  unfold m_negative mOf b_negative
  simp
  rfl
@[simp] theorem e_Lneg (h : MH) : m_Lneg [eQ p] h = .ok (eQ (-p)) h := by
  unfold m_Lneg mOf b_Lneg
  simp
  rfl
@[simp] theorem e_is_less (hp : Ok p) (hq : Ok q) (h : MH) : m_is_less [eQ p, eQ q] h = .ok (.bl (decide (p < q))) h := by
  unfold m_is_less mOf b_is_less
  simp [v_mul (mo1 hp hq), v_mul (mo1 hq hp), dLt, lt_iff]
@[simp] theorem e_Lless (hp : Ok p) (hq : Ok q) (h : MH) : m_Lless [eQ p, eQ q] h = .ok (.bl (decide (p < q))) h := by
  unfold m_Lless mOf b_Lless
  simp [v_mul (mo1 hp hq), v_mul (mo1 hq hp), dLt, lt_iff]
end
/-! ### loops by what they walk -/
theorem fFor_seq {fe : FE} {tgt : FG} {body : FS} {σ : Sg} {h : MH} {d : D} {ds : List D} (s : Sqn h d ds) (e : fe σ h = .ok d h) (I : Nat → Sg → Prop) (h0 : I 0 σ)
    (hs : ∀ (j : Nat) (d : D) (σ : Sg), ds[j]? = some d → I j σ → ∃ σ1 σ2, tgt d σ h = .ok σ1 h ∧ body σ1 h = .ok (.nx σ2) h ∧ I (j + 1) σ2) :
    ∃ σ', fFor (iSeq fe) tgt body σ h = .ok (.nx σ') h ∧ I ds.length σ' := by
  obtain ⟨it, e1, e2, e3⟩ := s.it e
  rw [fFor_eq e1 e2]
  exact forGo_pure e3 I ds σ h0 hs
theorem fFor_seqI {fe : FE} {tgt : FG} {body : FS} {σ : Sg} {h : MH} {ds : List D} {d : D} (e : fe σ h = .ok d h) (hd : d = .tup ds ∨ d = .fls ds) (I : Nat → Sg → MH → Prop) (h0 : I 0 σ h)
    (hs : ∀ (j : Nat) (d : D) (σ : Sg) (h : MH), ds[j]? = some d → I j σ h → ∃ σ1 h1 σ2 h2, tgt d σ h = .ok σ1 h1 ∧ body σ1 h1 = .ok (.nx σ2) h2 ∧ I (j + 1) σ2 h2) :
    ∃ σ' h', fFor (iSeq fe) tgt body σ h = .ok (.nx σ') h' ∧ I ds.length σ' h' := by
  have : iSeq fe σ h = .ok (.vals ds) h := by rcases hd with rfl | rfl <;> simp [iSeq, e]
  rw [fFor_eq this rfl]
  obtain ⟨σ', h', a, b⟩ := forGo_inv (chk := fun h => (It'.vals ds).chk ds h) (tgt := tgt) (body := body) I ds 0 σ h h0 (fun _ _ _ _ => rfl) (fun j d σ h e z => by
    rw [Nat.zero_add] at z ⊢
    obtain ⟨σ1, h1, σ2, h2, a, b, c⟩ := hs j d σ h e z
    exact ⟨σ1, h1, .nx σ2, h2, σ2, a, b, .inl rfl, c⟩)
  rw [Nat.zero_add] at b
  exact ⟨σ', h', a, b⟩
/-- a list walked while the heap moves but the list stays -/
theorem fFor_lstI {fe : FE} {tgt : FG} {body : FS} {σ : Sg} {h : MH} {ds : List D} {n : Nat} (e : fe σ h = .ok (.lst n) h) (hd : h[n]? = some (.lst ds)) (I : Nat → Sg → MH → Prop) (h0 : I 0 σ h)
    (hc : ∀ j σ h, I j σ h → h[n]? = some (.lst ds))
    (hs : ∀ (j : Nat) (d : D) (σ : Sg) (h : MH), ds[j]? = some d → I j σ h → ∃ σ1 h1 σ2 h2, tgt d σ h = .ok σ1 h1 ∧ body σ1 h1 = .ok (.nx σ2) h2 ∧ I (j + 1) σ2 h2) :
    ∃ σ' h', fFor (iSeq fe) tgt body σ h = .ok (.nx σ') h' ∧ I ds.length σ' h' := by
  have : iSeq fe σ h = .ok (.lst n) h := by simp [iSeq, e]
  rw [fFor_eq this (items_lst hd)]
  obtain ⟨σ', h', a, b⟩ := forGo_inv (chk := fun h => (It'.lst n).chk ds h) (tgt := tgt) (body := body) I ds 0 σ h h0 (fun j σ h z => chk_lst (hc j σ h z)) (fun j d σ h e z => by
    rw [Nat.zero_add] at z ⊢
    obtain ⟨σ1, h1, σ2, h2, a, b, c⟩ := hs j d σ h e z
    exact ⟨σ1, h1, .nx σ2, h2, σ2, a, b, .inl rfl, c⟩)
  rw [Nat.zero_add] at b
  exact ⟨σ', h', a, b⟩
theorem fFor_rgI {fa : FE} {tgt : FG} {body : FS} {σ : Sg} {h : MH} {n : Nat} (e : fa σ h = .ok (.int n) h) (l : n ≤ 1000000) (I : Nat → Sg → MH → Prop) (h0 : I 0 σ h)
    (hs : ∀ (j : Nat) (σ : Sg) (h : MH), j < n → I j σ h → ∃ σ1 h1 σ2 h2, tgt (.int j) σ h = .ok σ1 h1 ∧ body σ1 h1 = .ok (.nx σ2) h2 ∧ I (j + 1) σ2 h2) :
    ∃ σ' h', fFor (iRg1 fa) tgt body σ h = .ok (.nx σ') h' ∧ I n σ' h' := by
  rw [fFor_eq (iRg1_eq e l) rfl]
  obtain ⟨σ', h', a, b⟩ := forGo_inv (chk := fun h => (It'.vals ((List.range n).map fun i : Nat => D.int (i : Int))).chk ((List.range n).map fun i : Nat => D.int (i : Int)) h) (tgt := tgt) (body := body) I ((List.range n).map fun i : Nat => D.int (i : Int)) 0 σ h h0 (fun _ _ _ _ => rfl) (fun j d σ h e z => by
    rw [Nat.zero_add] at z ⊢
    rw [List.getElem?_map, Option.map_eq_some_iff] at e
    obtain ⟨i, e, rfl⟩ := e
    have hj := List.getElem?_eq_some_iff.mp e
    obtain ⟨hj, rfl⟩ := hj
    rw [List.getElem_range] at *
    obtain ⟨σ1, h1, σ2, h2, a, b, c⟩ := hs j σ h (by simpa using hj) z
    exact ⟨σ1, h1, .nx σ2, h2, σ2, a, b, .inl rfl, c⟩)
  rw [Nat.zero_add] at b
  exact ⟨σ', h', a, by simpa using b⟩
/-! ### sums of parts -/
def tot : List Rat → Rat
  | [] => 0
  | q :: qs => q + tot qs
@[simp] theorem tot_nil : tot [] = 0 := rfl
@[simp] theorem tot_cons {q : Rat} {qs : List Rat} : tot (q :: qs) = q + tot qs := rfl
@[simp] theorem tot_append {ps qs : List Rat} : tot (ps ++ qs) = tot ps + tot qs := by
  induction ps with
  | nil => simp [Rat.zero_add]
  | cons p ps ih => simp [ih, Rat.add_assoc]
def SzL (b : Nat) (qs : List Rat) : Prop := ∀ q ∈ qs, Sz b q
theorem SzL.mono {b c : Nat} {qs : List Rat} (z : SzL b qs) (l : b ≤ c) : SzL c qs := fun q m => (z q m).mono l
theorem SzL.sub {b : Nat} {ps qs : List Rat} (z : SzL b qs) (l : ∀ q ∈ ps, q ∈ qs) : SzL b ps := fun q m => z q (l q m)
theorem sz_tot {b : Nat} : ∀ {qs : List Rat}, SzL b qs → Sz (qs.length * (b + 1) + 1) (tot qs)
  | [], _ => sz_0.mono (by omega)
  | q :: qs, z => by
    have h1 := z q (List.mem_cons_self ..)
    have h2 := sz_tot (b := b) (qs := qs) (z.sub fun q m => List.mem_cons_of_mem _ m)
    refine (sz_add h1 h2).mono ?_
    rw [List.length_cons, Nat.succ_mul]
    omega
theorem take_succ_q {qs : List Rat} {j : Nat} {q : Rat} (e : qs[j]? = some q) : qs.take (j + 1) = qs.take j ++ [q] := by
  rw [List.take_succ, e]; rfl
theorem sz_take {b : Nat} {qs : List Rat} (z : SzL b qs) (l : qs.length * (b + 1) + 1 ≤ 4000) (j : Nat) : Ok (tot (qs.take j)) :=
  (sz_tot (z.sub fun q m => List.mem_of_mem_take m)).mono (by
    have : (qs.take j).length ≤ qs.length := by rw [List.length_take]; omega
    have := Nat.mul_le_mul_right (b + 1) this
    omega)
theorem mem_ok {b : Nat} {qs : List Rat} (z : SzL b qs) (l : qs.length * (b + 1) + 1 ≤ 4000) {j : Nat} {q : Rat} (e : qs[j]? = some q) : Ok q := by
  have m := List.mem_of_getElem? e
  refine (z q m).mono ?_
  have : 1 ≤ qs.length := by cases qs with
    | nil => cases m
    | cons _ _ => simp
  have := Nat.mul_le_mul_right (b + 1) this
  omega
theorem map_get {qs : List Rat} {j : Nat} {d : D} (e : (qs.map eQ)[j]? = some d) : ∃ q, qs[j]? = some q ∧ d = eQ q := by
  rw [List.getElem?_map, Option.map_eq_some_iff] at e
  obtain ⟨q, e, rfl⟩ := e
  exact ⟨q, e, rfl⟩
theorem e_total {h : MH} {d : D} {qs : List Rat} {b : Nat} (s : Sqn h d (qs.map eQ)) (z : SzL b qs) (l : qs.length * (b + 1) + 1 ≤ 4000) : m_total [d] h = .ok (eQ (tot qs)) h := by
  unfold m_total mOf b_total
  obtain ⟨σ', e, z', rfl⟩ := fFor_seq (fe := fVar 0) (tgt := gNm 2) (body := fSet 1 (fGc (fCall 2 m_plus (fCons (fVar 1) (fCons (fVar 2) fNil))))) (σ := [some d, some (eQ 0), none]) s (by simp) (fun j σ => ∃ z, σ = [some d, some (eQ (tot (qs.take j))), z]) ⟨none, by simp⟩ (by
    rintro j e σ ej ⟨z', rfl⟩
    obtain ⟨q, eq, rfl⟩ := map_get ej
    refine ⟨_, _, rfl, ?_, ⟨some (eQ q), rfl⟩⟩
    simp [e_plus (sz_take z l j) (mem_ok z l eq), take_succ_q eq, Rat.add_zero])
  have : (D.tup [.int 0, .int 1]) = eQ 0 := rfl
  simp [this, e]
theorem e_Ltotal {h : MH} {d : D} {qs : List Rat} {b : Nat} (s : Sqn h d (qs.map eQ)) (z : SzL b qs) (l : qs.length * (b + 1) + 1 ≤ 4000) : m_Ltotal [d] h = .ok (eQ (tot qs)) h := by
  unfold m_Ltotal mOf b_Ltotal
  obtain ⟨σ', e, z', rfl⟩ := fFor_seq (fe := fVar 0) (tgt := gNm 2) (body := fSet 1 (fGc (fCall 2 m_Ladd (fCons (fVar 1) (fCons (fVar 2) fNil))))) (σ := [some d, some (eQ 0), none]) s (by simp) (fun j σ => ∃ z, σ = [some d, some (eQ (tot (qs.take j))), z]) ⟨none, by simp⟩ (by
    rintro j e σ ej ⟨z', rfl⟩
    obtain ⟨q, eq, rfl⟩ := map_get ej
    refine ⟨_, _, rfl, ?_, ⟨some (eQ q), rfl⟩⟩
    simp [e_Ladd (sz_take z l j) (mem_ok z l eq), take_succ_q eq, Rat.add_zero])
  have : (D.tup [.int 0, .int 1]) = eQ 0 := rfl
  simp [this, e]
/-! the products of two rows -/
theorem gc_dp {h g : MH} {d : D} (c : Clo h) (p : d.pu = true) : gcR h.length (.ok d (h ++ g)) = .ok d h := gc_drop c (cl_pu _ _ p)
theorem gc_np {h : MH} {ds : List D} (c : Clo h) (p : D.puL ds = true) : gcR h.length (.ok (.lst h.length) (h ++ [.lst ds])) = .ok (.lst h.length) (h ++ [.lst ds]) := gc_new0 c (clL_pu _ _ p)
def pro (ps qs : List Rat) : List Rat := List.zipWith (· * ·) ps qs
theorem pro_range {ps qs : List Rat} (l : ps.length ≤ qs.length) : (List.range ps.length).map (fun i => eQ ((ps[i]?.getD 0) * (qs[i]?.getD 0))) = (pro ps qs).map eQ := by
  apply List.ext_getElem?
  intro i
  simp only [List.getElem?_map, pro, List.getElem?_zipWith]
  by_cases hi : i < ps.length
  · have hq : i < qs.length := by omega
    simp [hi, hq]
  · rw [List.getElem?_eq_none (by simp; omega), List.getElem?_eq_none (by omega)]
    rfl
theorem sz_pro {a b : Nat} {ps qs : List Rat} (zp : SzL a ps) (zq : SzL b qs) : SzL (a + b) (pro ps qs) := by
  intro q m
  obtain ⟨i, hi, rfl⟩ := List.mem_iff_getElem.mp m
  simp only [pro, List.getElem_zipWith]
  exact sz_mul (zp _ (List.getElem_mem _)) (zq _ (List.getElem_mem _))
theorem len_pro {ps qs : List Rat} (l : ps.length ≤ qs.length) : (pro ps qs).length = ps.length := by simp [pro]; omega
theorem v_ixQ {h : MH} {d : D} {qs : List Rat} (s : Sqn h d (qs.map eQ)) {i : Nat} (l : i < qs.length) : dIx d (.int i) h = .ok (eQ (qs[i]?.getD 0)) h := by
  refine v_ix s.dI (atI_nat' (n := i) ?_)
  rw [List.getElem?_map, List.getElem?_eq_getElem l]
  rfl
theorem get_ok {b : Nat} {qs : List Rat} (z : SzL b qs) (l : b ≤ 4000) {i : Nat} : Ok (qs[i]?.getD 0) := by
  by_cases hi : i < qs.length
  · rw [List.getElem?_eq_getElem hi]; exact (z _ (List.getElem_mem _)).mono l
  · rw [List.getElem?_eq_none (by omega)]; exact sz_0.mono (by decide)
theorem e_dot {h : MH} {d e : D} {ps qs : List Rat} {a b : Nat} (c : Clo h) (s : Sqn h d (ps.map eQ)) (t : Sqn h e (qs.map eQ)) (zp : SzL a ps) (zq : SzL b qs) (ll : ps.length ≤ qs.length) (l : ps.length * (a + b + 1) + 1 ≤ 4000) (la : a ≤ 4000) (lb : b ≤ 4000) : m_dot [d, e] h = .ok (eQ (tot (pro ps qs))) h := by
  unfold m_dot mOf b_dot
  have hl : ps.length ≤ 1000000 := by
    have := Nat.mul_le_mul_left ps.length (show 1 ≤ a + b + 1 by omega)
    omega
  have h1 := fLc_rg (own := [2]) (fa := fCB cLen (fCons (fVar 0) fNil)) (tgt := gNm 2) (elt := fGc (fCall 2 m_times (fCons (fOp dIx (fVar 0) (fVar 2)) (fCons (fOp dIx (fVar 1) (fVar 2)) fNil)))) (σ := [some d, some e, none]) (h := h) (n := ps.length) (by simp [v_len s.dI]) hl (fun i => eQ ((ps[i]?.getD 0) * (qs[i]?.getD 0))) (by
    intro i hi
    refine ⟨_, rfl, ?_⟩
    simp [wipeD, v_ixQ s hi, v_ixQ t (Nat.lt_of_lt_of_le hi ll), e_times (get_ok zp la) (get_ok zq lb)])
  rw [pro_range ll] at h1
  have h2 : m_total [.lst h.length] (h ++ [.lst ((pro ps qs).map eQ)]) = .ok (eQ (tot (pro ps qs))) (h ++ [.lst ((pro ps qs).map eQ)]) := e_total (.inr (.inr ⟨_, rfl, by simp⟩)) (sz_pro zp zq) (by rw [len_pro ll]; omega)
  simp [h1, gc_new0 c (clL_pu _ _ (eQs_pu _)), h2, gc_dp c (eQ_pu _)]
theorem e_Ldot {h : MH} {d e : D} {ps qs : List Rat} {a b : Nat} (c : Clo h) (s : Sqn h d (ps.map eQ)) (t : Sqn h e (qs.map eQ)) (zp : SzL a ps) (zq : SzL b qs) (ll : ps.length ≤ qs.length) (l : ps.length * (a + b + 1) + 1 ≤ 4000) (la : a ≤ 4000) (lb : b ≤ 4000) : m_Ldot [d, e] h = .ok (eQ (tot (pro ps qs))) h := by
  unfold m_Ldot mOf b_Ldot
  have hl : ps.length ≤ 1000000 := by
    have := Nat.mul_le_mul_left ps.length (show 1 ≤ a + b + 1 by omega)
    omega
  have h1 := fLc_rg (own := [2]) (fa := fCB cLen (fCons (fVar 0) fNil)) (tgt := gNm 2) (elt := fGc (fCall 2 m_Lmul (fCons (fOp dIx (fVar 0) (fVar 2)) (fCons (fOp dIx (fVar 1) (fVar 2)) fNil)))) (σ := [some d, some e, none]) (h := h) (n := ps.length) (by simp [v_len s.dI]) hl (fun i => eQ ((ps[i]?.getD 0) * (qs[i]?.getD 0))) (by
    intro i hi
    refine ⟨_, rfl, ?_⟩
    simp [wipeD, v_ixQ s hi, v_ixQ t (Nat.lt_of_lt_of_le hi ll), e_Lmul (get_ok zp la) (get_ok zq lb)])
  rw [pro_range ll] at h1
  have h2 : m_Ltotal [.lst h.length] (h ++ [.lst ((pro ps qs).map eQ)]) = .ok (eQ (tot (pro ps qs))) (h ++ [.lst ((pro ps qs).map eQ)]) := e_Ltotal (.inr (.inr ⟨_, rfl, by simp⟩)) (sz_pro zp zq) (by rw [len_pro ll]; omega)
  simp [h1, gc_new0 c (clL_pu _ _ (eQs_pu _)), h2, gc_dp c (eQ_pu _)]
/-! ### least and greatest -/
def mnF (q : Rat) (qs : List Rat) : Rat := qs.foldl (fun f x => if x < f then x else f) q
def mxF (q : Rat) (qs : List Rat) : Rat := qs.foldl (fun f x => if f < x then x else f) q
theorem mnF_mem {qs : List Rat} : ∀ {q : Rat}, mnF q qs = q ∨ mnF q qs ∈ qs := by
  induction qs with
  | nil => intro q; exact .inl rfl
  | cons x qs ih =>
    intro q
    show mnF (if x < q then x else q) qs = q ∨ mnF (if x < q then x else q) qs ∈ x :: qs
    split
    · rcases ih (q := x) with e | e
      · right; rw [e]; exact List.mem_cons_self ..
      · right; exact List.mem_cons_of_mem _ e
    · rcases ih (q := q) with e | e
      · left; exact e
      · right; exact List.mem_cons_of_mem _ e
theorem mnF_le {qs : List Rat} : ∀ {q : Rat}, mnF q qs ≤ q ∧ ∀ x ∈ qs, mnF q qs ≤ x := by
  induction qs with
  | nil => intro q; exact ⟨Rat.le_refl, fun _ m => by cases m⟩
  | cons x qs ih =>
    intro q
    have h := ih (q := if x < q then x else q)
    have hx : (if x < q then x else q) ≤ q ∧ (if x < q then x else q) ≤ x := by split <;> grind
    refine ⟨Rat.le_trans h.1 hx.1, fun y m => ?_⟩
    rcases List.mem_cons.mp m with rfl | m
    · exact Rat.le_trans h.1 hx.2
    · exact h.2 y m
theorem mxF_mem {qs : List Rat} : ∀ {q : Rat}, mxF q qs = q ∨ mxF q qs ∈ qs := by
  induction qs with
  | nil => intro q; exact .inl rfl
  | cons x qs ih =>
    intro q
    show mxF (if q < x then x else q) qs = q ∨ mxF (if q < x then x else q) qs ∈ x :: qs
    split
    · rcases ih (q := x) with e | e
      · right; rw [e]; exact List.mem_cons_self ..
      · right; exact List.mem_cons_of_mem _ e
    · rcases ih (q := q) with e | e
      · left; exact e
      · right; exact List.mem_cons_of_mem _ e
theorem mxF_le {qs : List Rat} : ∀ {q : Rat}, q ≤ mxF q qs ∧ ∀ x ∈ qs, x ≤ mxF q qs := by
  induction qs with
  | nil => intro q; exact ⟨Rat.le_refl, fun _ m => by cases m⟩
  | cons x qs ih =>
    intro q
    have h := ih (q := if q < x then x else q)
    have hx : q ≤ (if q < x then x else q) ∧ x ≤ (if q < x then x else q) := by split <;> grind
    refine ⟨Rat.le_trans hx.1 h.1, fun y m => ?_⟩
    rcases List.mem_cons.mp m with rfl | m
    · exact Rat.le_trans hx.2 h.1
    · exact h.2 y m
theorem mnF_take {q x : Rat} {qs : List Rat} {j : Nat} (e : qs[j]? = some x) : mnF q (qs.take (j + 1)) = if x < mnF q (qs.take j) then x else mnF q (qs.take j) := by
  rw [take_succ_q e]; unfold mnF; rw [List.foldl_append]; rfl
theorem mxF_take {q x : Rat} {qs : List Rat} {j : Nat} (e : qs[j]? = some x) : mxF q (qs.take (j + 1)) = if mxF q (qs.take j) < x then x else mxF q (qs.take j) := by
  rw [take_succ_q e]; unfold mxF; rw [List.foldl_append]; rfl
theorem ok_mnF {q : Rat} {qs : List Rat} (z : SzL 4000 (q :: qs)) (j : Nat) : Ok (mnF q (qs.take j)) := by
  rcases mnF_mem (q := q) (qs := qs.take j) with e | e
  · rw [e]; exact z q (List.mem_cons_self ..)
  · exact z _ (List.mem_cons_of_mem _ (List.mem_of_mem_take e))
theorem ok_mxF {q : Rat} {qs : List Rat} (z : SzL 4000 (q :: qs)) (j : Nat) : Ok (mxF q (qs.take j)) := by
  rcases mxF_mem (q := q) (qs := qs.take j) with e | e
  · rw [e]; exact z q (List.mem_cons_self ..)
  · exact z _ (List.mem_cons_of_mem _ (List.mem_of_mem_take e))
theorem mnF_self {q : Rat} {qs : List Rat} : mnF q (q :: qs) = mnF q qs := by
  show mnF (if q < q then q else q) qs = _
  rw [ite_self]
theorem mxF_self {q : Rat} {qs : List Rat} : mxF q (q :: qs) = mxF q qs := by
  show mxF (if q < q then q else q) qs = _
  rw [ite_self]
theorem e_Lleast {h : MH} {d : D} {q : Rat} {qs : List Rat} (s : Sqn h d ((q :: qs).map eQ)) (z : SzL 4000 (q :: qs)) : m_Lleast [d] h = .ok (eQ (mnF q qs)) h := by
  unfold m_Lleast mOf b_Lleast
  have z2 : SzL 4000 (q :: q :: qs) := fun x m => by
    rcases List.mem_cons.mp m with rfl | m
    · exact z _ (List.mem_cons_self ..)
    · exact z x m
  obtain ⟨σ', e, z', rfl⟩ := fFor_seq (fe := fVar 0) (tgt := gNm 2) (body := fSet 1 (fIfE (fTru (fGc (fCall 2 m_Lless (fCons (fVar 2) (fCons (fVar 1) fNil))))) (fVar 2) (fVar 1))) (σ := [some d, some (eQ q), none]) s (by simp) (fun j σ => ∃ z, σ = [some d, some (eQ (mnF q ((q :: qs).take j))), z]) ⟨none, by simp [mnF]⟩ (by
    rintro j e σ ej ⟨z', rfl⟩
    obtain ⟨x, ex, rfl⟩ := map_get ej
    refine ⟨_, _, rfl, ?_, ⟨some (eQ x), rfl⟩⟩
    have hx : Ok x := z x (List.mem_of_getElem? ex)
    simp only [mnF_take ex, ev_set, ev_ifE, ev_tru, ev_gc, ev_call, ev_cons, ev_var, ev_nil, List.getElem?_cons_succ, List.getElem?_cons_zero, List.set_cons_succ, List.set_cons_zero, bind_ok, List.length_cons, List.length_nil, e_Lless hx (ok_mnF z2 j), gc_same, v_truB, if_true]
    by_cases c : x < mnF q ((q :: qs).take j)
    · simp only [c, decide_true, if_true, bind_ok]
    · simp only [c, decide_false, Bool.false_eq_true, if_false, bind_ok])
  have h0 : dIx d (.int 0) h = .ok (eQ q) h := v_ix s.dI (by simp)
  simp only [startD_cons, startD_nil, List.replicate_succ, List.replicate_zero, ev_seq, ev_set, ev_op, ev_c, ev_var, List.getElem?_cons_zero, bind_ok, h0, List.set_cons_succ, List.set_cons_zero, e, ev_ret, List.getElem?_cons_succ, ev_retR_rt, gc_same]
  rw [List.length_map, List.take_length, mnF_self]
theorem e_Lmost {h : MH} {d : D} {q : Rat} {qs : List Rat} (s : Sqn h d ((q :: qs).map eQ)) (z : SzL 4000 (q :: qs)) : m_Lmost [d] h = .ok (eQ (mxF q qs)) h := by
  unfold m_Lmost mOf b_Lmost
  have z2 : SzL 4000 (q :: q :: qs) := fun x m => by
    rcases List.mem_cons.mp m with rfl | m
    · exact z _ (List.mem_cons_self ..)
    · exact z x m
  obtain ⟨σ', e, z', rfl⟩ := fFor_seq (fe := fVar 0) (tgt := gNm 2) (body := fSet 1 (fIfE (fTru (fGc (fCall 2 m_Lless (fCons (fVar 1) (fCons (fVar 2) fNil))))) (fVar 2) (fVar 1))) (σ := [some d, some (eQ q), none]) s (by simp) (fun j σ => ∃ z, σ = [some d, some (eQ (mxF q ((q :: qs).take j))), z]) ⟨none, by simp [mxF]⟩ (by
    rintro j e σ ej ⟨z', rfl⟩
    obtain ⟨x, ex, rfl⟩ := map_get ej
    refine ⟨_, _, rfl, ?_, ⟨some (eQ x), rfl⟩⟩
    have hx : Ok x := z x (List.mem_of_getElem? ex)
    simp only [mxF_take ex, ev_set, ev_ifE, ev_tru, ev_gc, ev_call, ev_cons, ev_var, ev_nil, List.getElem?_cons_succ, List.getElem?_cons_zero, List.set_cons_succ, List.set_cons_zero, bind_ok, List.length_cons, List.length_nil, e_Lless (ok_mxF z2 j) hx, gc_same, v_truB, if_true]
    by_cases c : mxF q ((q :: qs).take j) < x
    · simp only [c, decide_true, if_true, bind_ok]
    · simp only [c, decide_false, Bool.false_eq_true, if_false, bind_ok])
  have h0 : dIx d (.int 0) h = .ok (eQ q) h := v_ix s.dI (by simp)
  simp only [startD_cons, startD_nil, List.replicate_succ, List.replicate_zero, ev_seq, ev_set, ev_op, ev_c, ev_var, List.getElem?_cons_zero, bind_ok, h0, List.set_cons_succ, List.set_cons_zero, e, ev_ret, List.getElem?_cons_succ, ev_retR_rt, gc_same]
  rw [List.length_map, List.take_length, mxF_self]
theorem isN_eQ {q : Rat} : isN (eQ q) = false := rfl
theorem e_least {h : MH} {d : D} {q : Rat} {qs : List Rat} (s : Sqn h d ((q :: qs).map eQ)) (z : SzL 4000 (q :: qs)) : m_least [d] h = .ok (eQ (mnF q qs)) h := by
  unfold m_least mOf b_least
  have z2 : SzL 4000 (q :: q :: qs) := fun x m => by
    rcases List.mem_cons.mp m with rfl | m
    · exact z _ (List.mem_cons_self ..)
    · exact z x m
  obtain ⟨σ', e, hz⟩ := fFor_seq (fe := fVar 0) (tgt := gNm 2) (body := fSet 1 (fIfE (fOrT (fTst (fOp dIs (fVar 1) (fC .non))) (fTru (fGc (fCall 2 m_is_less (fCons (fVar 2) (fCons (fVar 1) fNil)))))) (fVar 2) (fVar 1))) (σ := [some d, some .non, none]) s (by simp) (fun j σ => (j = 0 ∧ σ = [some d, some .non, none]) ∨ (0 < j ∧ ∃ z, σ = [some d, some (eQ (mnF q ((q :: qs).take j))), z])) (.inl ⟨rfl, rfl⟩) (by
    rintro j e σ ej hj
    obtain ⟨x, ex, rfl⟩ := map_get ej
    have hx : Ok x := z x (List.mem_of_getElem? ex)
    rcases hj with ⟨rfl, rfl⟩ | ⟨hj, z', rfl⟩
    · have : q = x := by simpa using ex
      subst this
      refine ⟨_, [some d, some (eQ q), some (eQ q)], rfl, by simp, .inr ⟨Nat.zero_lt_one, some (eQ q), ?_⟩⟩
      simp [mnF]
    · refine ⟨_, _, rfl, ?_, .inr ⟨by omega, some (eQ x), rfl⟩⟩
      simp only [mnF_take ex, ev_set, ev_ifE, ev_orT, ev_tst, ev_op, ev_c, v_isN, isN_eQ, ev_toB, ev_tru, ev_gc, ev_call, ev_cons, ev_var, ev_nil, List.getElem?_cons_succ, List.getElem?_cons_zero, List.set_cons_succ, List.set_cons_zero, bind_ok, List.length_cons, List.length_nil, e_is_less hx (ok_mnF z2 j), gc_same, v_truB, if_true, Bool.false_eq_true, if_false]
      by_cases c : x < mnF q ((q :: qs).take j)
      · simp only [c, decide_true, if_true, bind_ok]
      · simp only [c, decide_false, Bool.false_eq_true, if_false, bind_ok])
  rcases hz with ⟨h0, _⟩ | ⟨_, z', rfl⟩
  · simp at h0
  simp only [startD_cons, startD_nil, List.replicate_succ, List.replicate_zero, ev_seq, ev_set, ev_op, ev_c, ev_var, List.getElem?_cons_zero, bind_ok, List.set_cons_succ, List.set_cons_zero, e, ev_ret, List.getElem?_cons_succ, ev_retR_rt, gc_same]
  rw [List.length_map, List.take_length, mnF_self]
/-! ### the state -/
/-- the state at b.length + 1, its cells at b.length -/
def SH (b : MH) (S : List Int × Int) (g : MH) : MH := b ++ (.lst (S.1.map .int) :: .lst [.int S.2, .lst b.length] :: g)
section
variable {b g : MH} {S : List Int × Int}
@[simp] theorem SH_length : (SH b S g).length = b.length + (g.length + 2) := by simp [SH]
@[simp] theorem SH_0 : (SH b S g)[b.length]? = some (.lst (S.1.map .int)) := by simp [SH]
@[simp] theorem SH_1 : (SH b S g)[b.length + 1]? = some (.lst [.int S.2, .lst b.length]) := by
  unfold SH
  rw [List.getElem?_append_right (by omega), show b.length + 1 - b.length = 1 by omega]
  rfl
theorem SH_g {i : Nat} : (SH b S g)[b.length + 2 + i]? = g[i]? := by
  unfold SH
  rw [List.getElem?_append_right (by omega), show b.length + 2 + i - b.length = i + 2 by omega]
  rfl
theorem SH_set0 {xs : List D} {cs : List Int} (e : xs = cs.map .int) : (SH b S g).set b.length (.lst xs) = SH b (cs, S.2) g := by
  subst e
  unfold SH
  rw [List.set_append_right _ _ (by omega), Nat.sub_self]
  rfl
theorem SH_set1 {k : Int} : (SH b S g).set (b.length + 1) (.lst [.int k, .lst b.length]) = SH b (S.1, k) g := by
  unfold SH
  rw [List.set_append_right _ _ (by omega), show b.length + 1 - b.length = 1 by omega]
  rfl
theorem SH_setg {i : Nat} {x : HE} : (SH b S g).set (b.length + 2 + i) x = SH b S (g.set i x) := by
  unfold SH
  rw [List.set_append_right _ _ (by omega), show b.length + 2 + i - b.length = i + 2 by omega]
  rfl
theorem SH_app {j : MH} : SH b S g ++ j = SH b S (g ++ j) := by simp [SH]
theorem SH_assoc {a : MH} : SH b S (g ++ a) = SH b S g ++ a := by simp [SH]
end
/-- a state that draws may leave behind -/
def Gd (S : List Int × Int) : Prop := S.1 ≠ [] ∧ S.1.length ≤ 1000000
/-- every state closed -/
def CloS (b g : MH) : Prop := ∀ S, Clo (SH b S g)
theorem cloS_nil {b : MH} (c : Clo b) : CloS b [] := by
  intro S
  unfold Clo clH at *
  rw [List.all_eq_true] at *
  intro e m
  unfold SH at m ⊢
  have hl : b.length ≤ (b ++ [HE.lst (S.1.map .int), .lst [.int S.2, .lst b.length]]).length := by simp
  rcases List.mem_append.mp m with m | m
  · have := c e m
    cases e with
    | lst ds => exact clL_mono hl ds this
  · rcases List.mem_cons.mp m with rfl | m
    · exact (clL_iff _ _).mpr fun d m => by obtain ⟨i, _, rfl⟩ := List.mem_map.mp m; rfl
    · rcases List.mem_cons.mp m with rfl | m
      · simp [HE.cl, D.clL, D.cl]
      · cases m
theorem CloS.push {b g : MH} (c : CloS b g) {ds : List D} (p : D.clL (b.length + (g.length + 2)) ds = true) : CloS b (g ++ [.lst ds]) := by
  intro S
  have := c S
  rw [SH_assoc]
  unfold Clo clH at *
  rw [List.all_append, Bool.and_eq_true]
  refine ⟨?_, by
    simp only [List.all_cons, List.all_nil, Bool.and_true, HE.cl]
    exact clL_mono (by simp) ds p⟩
  rw [List.all_eq_true] at this ⊢
  intro e m
  have := this e m
  cases e with
  | lst es => exact clL_mono (by simp) es this
theorem CloS.pushP {b g : MH} (c : CloS b g) {ds : List D} (p : D.puL ds = true) : CloS b (g ++ [.lst ds]) := c.push (clL_pu _ _ p)
/-- r draws: some value that keeps P, some state, the rest of the heap is g -/
def Drw (b g : MH) (P : D → Prop) (r : Res D) : Prop := ∃ d S, r = .ok d (SH b S g) ∧ Gd S ∧ P d
theorem gc_SH {b g j : MH} {S : List Int × Int} {n : Nat} {d : D} (c : CloS b g) (l : n = b.length + (g.length + 2)) (p : d.pu = true) : gcR n (.ok d (SH b S (g ++ j))) = .ok d (SH b S g) := by
  have := gc_dp (h := SH b S g) (g := j) (c S) p
  rw [SH_length] at this
  rw [l, SH_assoc]
  exact this
theorem gc_SH0 {b g : MH} {S : List Int × Int} {n : Nat} {d : D} (l : n = b.length + (g.length + 2)) : gcR n (.ok d (SH b S g)) = .ok d (SH b S g) := gc_len (h := []) (by simp [l])
theorem gc_SHn {b g : MH} {S : List Int × Int} {n : Nat} {ds : List D} (c : CloS b g) (l : n = b.length + (g.length + 2)) (p : D.puL ds = true) : gcR n (.ok (.lst (SH b S g).length) (SH b S g ++ [.lst ds])) = .ok (.lst n) (SH b S (g ++ [.lst ds])) := by
  have := gc_np (h := SH b S g) (c S) p
  rw [SH_length] at this
  rw [l, SH_length, SH_assoc]
  exact this
theorem ixN_nat {n k : Nat} (l : k < n) : ixN n (k : Int) = some k := by unfold ixN; simp; omega
theorem fmod_rg {i m : Int} (h : 0 < m) : 0 ≤ Int.fmod i m ∧ Int.fmod i m < m := ⟨Int.fmod_nonneg_of_pos _ h, Int.fmod_lt_of_pos _ h⟩
theorem mulOk_small {i j : Int} (h1 : -(2 ^ 64) < j) (h2 : j < 2 ^ 64) : mulOk i j = true := by
  unfold mulOk
  simp only [Bool.or_eq_true]
  exact .inr (.inr (decide_eq_true ⟨h1, h2⟩))
theorem divOk_small {j : Int} (h0 : j ≠ 0) (h1 : j.natAbs < 2 ^ 64) : divOk j = true := divOk_of h0 h1 (by decide)
/-- a draw below most -/
def InR (m : Int) (d : D) : Prop := ∃ i : Int, d = .int i ∧ 0 ≤ i ∧ i < m
theorem e_Ltake {b g : MH} {S : List Int × Int} (hS : Gd S) {m : Int} (h0 : 0 < m) (hm : m < 2 ^ 60) : Drw b g (InR m) (m_Ltake [.lst (b.length + 1), .int m] (SH b S g)) := by
  unfold m_Ltake mOf b_Ltake
  by_cases h2 : m < 2
  · refine ⟨.int 0, S, ?_, hS, 0, rfl, by omega, h0⟩
    simp [dLt, h2, gc_SH0]
  · obtain ⟨cs, k⟩ := S
    have hl : (cs.length : Int) ≠ 0 := by
      have := hS.1
      have : cs ≠ [] := this
      have := List.length_pos_iff.mpr this
      omega
    have hp : (0 : Int) < cs.length := by omega
    have hr := fmod_rg (i := k) hp
    obtain ⟨a, ha⟩ : ∃ a : Nat, Int.fmod k cs.length = a := ⟨(Int.fmod k cs.length).toNat, by omega⟩
    have hal : a < cs.length := by omega
    have e1 : dIx (.lst (b.length + 1)) (.int 1) (SH b (cs, k) g) = .ok (.lst b.length) (SH b (cs, k) g) := v_ix (dI_lst SH_1) atI_1
    have e0 : dIx (.lst (b.length + 1)) (.int 0) (SH b (cs, k) g) = .ok (.int k) (SH b (cs, k) g) := v_ix (dI_lst SH_1) atI_0
    have el : cLen [.lst b.length] (SH b (cs, k) g) = .ok (.int cs.length) (SH b (cs, k) g) := by rw [v_len (dI_lst SH_0), List.length_map]
    have ec : dIx (.lst b.length) (.int a) (SH b (cs, k) g) = .ok (.int cs[a]) (SH b (cs, k) g) := v_ix (dI_lst SH_0) (atI_nat' (by rw [List.getElem?_map, List.getElem?_eq_getElem hal]; rfl))
    have hb1 : divOk m = true := divOk_small (by omega) (by omega)
    have hr1 := fun i => fmod_rg (i := i) (m := m) (by omega)
    by_cases hc : (1000000000000000000 : Int) ≤ cs[a]
    · refine ⟨.int (cs[a].fmod m), (cs.set a (cs[a].fdiv m), k), ?_, ⟨by
        intro z
        have z : cs.set a (cs[a].fdiv m) = [] := z
        rw [List.set_eq_nil_iff] at z
        exact hS.1 z, by simpa using hS.2⟩, _, rfl, (hr1 _).1, (hr1 _).2⟩
      have es : setD (.lst b.length) (.int a) (.int (cs[a].fdiv m)) (SH b (cs, k) g) = .ok () (SH b (cs.set a (cs[a].fdiv m), k) g) := by
        simp only [setD, SH_0, List.length_map, ixN_nat hal]
        rw [SH_set0 (cs := cs.set a (cs[a].fdiv m)) (by rw [List.map_set])]
      simp [dLt, h2, e1, e0, el, ha, Sm.v_mod hl, ec, dGe, hc, v_fdiv hb1, es, Sm.v_mod (show m ≠ 0 by omega), gc_SH0]
    · have es : setD (.lst (b.length + 1)) (.int 0) (.int (k + 1)) (SH b (cs, k) g) = .ok () (SH b (cs, k + 1) g) := by
        simp only [setD, SH_1, List.length_cons, List.length_nil, ixN_nat (show 0 < 2 by decide), List.set_cons_zero]
        have := SH_set1 (b := b) (S := (cs, k)) (g := g) (k := k + 1)
        simp only [show ixN (0 + 1 + 1) 0 = some 0 by rfl, List.set_cons_zero]
        rw [this]
      have e0' : dIx (.lst (b.length + 1)) (.int 0) (SH b (cs, k + 1) g) = .ok (.int (k + 1)) (SH b (cs, k + 1) g) := v_ix (dI_lst SH_1) atI_0
      have hx : ∀ i : Int, mulOk i 48271 = true := fun i => mulOk_small (by decide) (by decide)
      have hy : ∀ i : Int, mulOk i 69621 = true := fun i => mulOk_small (by decide) (by decide)
      have hz : ∀ i : Int, mulOk i 16807 = true := fun i => mulOk_small (by decide) (by decide)
      have hw : ∀ i : Int, mulOk i 7919 = true := fun i => mulOk_small (by decide) (by decide)
      have h7 : divOk 7 = true := divOk_small (by decide) (by decide)
      refine ⟨.int (Int.fmod (Int.fdiv (Int.fmod ((Int.fmod (cs[a] * 48271 + (k + 1) * 69621) 2147483647) * 16807 + (k + 1) * 7919) 1000000007) 7) m), (cs, k + 1), ?_, hS, _, rfl, (hr1 _).1, (hr1 _).2⟩
      simp [dLt, h2, e1, e0, el, ha, Sm.v_mod hl, ec, dGe, hc, es, e0', v_mul (hx _), v_mul (hy _), v_mul (hz _), v_mul (hw _), v_fdiv h7, Sm.v_mod (show m ≠ 0 by omega), Sm.v_mod (show (2147483647 : Int) ≠ 0 by decide), Sm.v_mod (show (1000000007 : Int) ≠ 0 by decide), gc_SH0]
/-- the script's state -/
theorem e_Lstate {ns : List Int} (l : ns.length ≤ 63) : ∃ b S, m_Lstate [.fls (ns.map .int)] [] = .ok (.lst (b.length + 1)) (SH b S []) ∧ Gd S ∧ Clo b := by
  unfold m_Lstate mOf b_Lstate
  have hs : Sm.cutD (ns.map D.int) none (some 63) = ns.map D.int := by
    unfold Sm.cutD
    have h0 : HT.sIx (ns.map D.int).length 0 none = 0 := rfl
    have h1 : (ns.map D.int).length ≤ HT.sIx (ns.map D.int).length (ns.map D.int).length (some 63) := by
      rw [show (some (63 : Int)) = some ((63 : Nat) : Int) from rfl, HT.sIx_nat, List.length_map]
      omega
    rw [h0, List.drop_zero, Nat.sub_zero, List.take_of_length_le h1]
  have hv : dSl (.fls (ns.map D.int)) none (some 63) [] = .ok (.lst 0) [.lst (ns.map D.int)] := by
    simp only [dSl, dT_fls, dL_fls, hs]
    rw [v_alloc (by rw [List.length_map]; omega)]
    rfl
  have ha : (ns.map D.int).map (fun d => match d with | .int i => D.int i.natAbs | d => d) = (ns.map fun i : Int => (i.natAbs : Int)).map D.int := by simp
  have hl : fLc [2] (iSeq (fSl (fVar 0) fNo (fSo (fC (.int 63))))) (gNm 2) fYes (fCB cAbs (fCons (fVar 2) fNil)) [some (.fls (ns.map D.int)), none, none] [] = .ok (.lst 1) [.lst (ns.map D.int), .lst ((ns.map fun i : Int => (i.natAbs : Int)).map D.int)] := by
    rw [fLc_eq (it := .lst 0) (h1 := [.lst (ns.map D.int)]) (ds := ns.map D.int) (by simp [iSeq, hv]) rfl (by rw [List.length_map]; omega)]
    rw [lcGo_map (by exact chk_lst rfl) (fun d => match d with | .int i => D.int i.natAbs | d => d) _ [] (fun d m => by
      obtain ⟨i, _, rfl⟩ := List.mem_map.mp m
      exact ⟨_, rfl, by simp [wipeD]⟩), List.nil_append, ha]
    rfl
  have hg : gcR 0 (.ok (.lst 1) [HE.lst (ns.map D.int), .lst ((ns.map fun i : Int => (i.natAbs : Int)).map D.int)]) = .ok (.lst 0) [.lst ((ns.map fun i : Int => (i.natAbs : Int)).map D.int)] :=
    gc_new (h := []) (g := [HE.lst (ns.map D.int)]) clo_nil ((clL_iff _ _).mpr fun d m => by obtain ⟨i, _, rfl⟩ := List.mem_map.mp m; rfl)
  by_cases hn : ns = []
  · subst hn
    refine ⟨[.lst []], ([0], 0), ?_, ⟨by simp, by simp⟩, rfl⟩
    simp only [List.map_nil] at hl hg
    simp only [startD_cons, startD_nil, List.replicate_succ, List.replicate_zero, ev_seq, ev_set, ev_gc, List.map_nil, List.length_nil, hl, hg, bind_ok, List.set_cons_succ, List.set_cons_zero]
    have h1 : cLen [.lst 0] [.lst []] = .ok (.int 0) [.lst []] := rfl
    simp [h1, v_alloc, SH]
    rfl
  · refine ⟨[], (ns.map fun i : Int => (i.natAbs : Int), 0), ?_, ⟨by simpa using hn, by simp; omega⟩, rfl⟩
    simp only [startD_cons, startD_nil, List.replicate_succ, List.replicate_zero, ev_seq, ev_set, ev_gc, List.length_nil, hl, hg, bind_ok, List.set_cons_succ, List.set_cons_zero]
    have h1 : cLen [.lst 0] [.lst ((ns.map fun i : Int => (i.natAbs : Int)).map D.int)] = .ok (.int ns.length) [.lst ((ns.map fun i : Int => (i.natAbs : Int)).map D.int)] := by
      rw [v_len (dI_lst rfl)]; simp
    simp only [List.map_map] at h1 ⊢
    simp [h1, v_alloc, SH, hn]
    rfl
/-- a draw: the state handle, the most -/
theorem e_Lfraction {b g : MH} {S : List Int × Int} (hS : Gd S) : Drw b g (fun d => ∃ u v : Int, d = eQ (Q u v) ∧ -3 ≤ u ∧ u ≤ 3 ∧ 1 ≤ v ∧ v ≤ 3) (m_Lfraction [.lst (b.length + 1), .int 3] (SH b S g)) := by
  unfold m_Lfraction mOf b_Lfraction
  obtain ⟨d1, S1, e1, g1, i, rfl, i0, i1⟩ := e_Ltake (b := b) (g := g) hS (m := 7) (by decide) (by decide)
  obtain ⟨d2, S2, e2, g2, j, rfl, j0, j1⟩ := e_Ltake (b := b) (g := g) g1 (m := 3) (by decide) (by decide)
  refine ⟨_, S2, ?_, g2, i - 3, 1 + j, rfl, by omega, by omega, by omega, by omega⟩
  have hm : dMul (.int 2) (.int 3) (SH b S g) = .ok (.int 6) (SH b S g) := v_mul (mulOk_small (by decide) (by decide))
  have hp := e_Lpart (a := i - 3) (b := 1 + j) (by omega) (by
    refine Nat.lt_of_lt_of_le (show (1 + j).natAbs < 2 ^ 2 by omega) ?_
    exact Nat.pow_le_pow_right (by decide) (by decide)) (SH b S2 g)
  simp [hm, e1, e2, gc_SH0, hp]
/-! comprehensions whose turns draw -/
theorem lcGo_drw {b g : MH} {chk : MH → Bool} {tgt : FG} {elt : FE} {σ0 : Sg} (hc : ∀ S, chk (SH b S g) = true) (P : Nat → D → Prop) : ∀ (ds : List D) (i : Nat) (acc : List D) (S : List Int × Int), Gd S →
    (∀ (j : Nat) (d : D) (S : List Int × Int), ds[j]? = some d → Gd S → ∃ σ1, tgt d σ0 (SH b S g) = .ok σ1 (SH b S g) ∧ Drw b g (P (i + j)) (elt σ1 (SH b S g))) →
    ∃ vs S', lcGo chk tgt fYes elt σ0 ds acc (SH b S g) = .ok (acc ++ vs) (SH b S' g) ∧ Gd S' ∧ vs.length = ds.length ∧ ∀ (j : Nat) (v : D), vs[j]? = some v → P (i + j) v
  | [], i, acc, S, hS, _ => ⟨[], S, by simp [lcGo, hc], hS, rfl, fun j v e => by simp at e⟩
  | d :: ds, i, acc, S, hS, hs => by
    obtain ⟨σ1, e1, v, S1, e2, g1, p⟩ := hs 0 d S rfl hS
    obtain ⟨vs, S', e3, g', l, ps⟩ := lcGo_drw (tgt := tgt) (elt := elt) (σ0 := σ0) hc P ds (i + 1) (acc ++ [v]) S1 g1 (fun j d S e z => by
      have := hs (j + 1) d S (by simpa using e) z
      rw [show i + (j + 1) = i + 1 + j by omega] at this
      exact this)
    refine ⟨v :: vs, S', ?_, g', by simp [l], fun j u e => ?_⟩
    · rw [lcGo, if_pos (hc S), e1, noX_ok, bind_ok, show fYes σ1 (SH b S g) = .ok true (SH b S g) from rfl, noX_ok, bind_ok, if_pos rfl, e2, noX_ok, bind_ok, e3]
      simp
    · cases j with
      | zero => simp at e; subst e; exact p
      | succ j =>
        have := ps j u (by simpa using e)
        rw [show i + (j + 1) = i + 1 + j by omega]
        exact this
theorem fLc_drw_rg {b g : MH} {own : List Nat} {fa : FE} {tgt : FG} {elt : FE} {σ : Sg} {S : List Int × Int} {n : Nat} (hS : Gd S) (e : fa σ (SH b S g) = .ok (.int n) (SH b S g)) (l : n ≤ 1000000) (P : Nat → D → Prop)
    (hs : ∀ (i : Nat) (S : List Int × Int), i < n → Gd S → ∃ σ1, tgt (.int i) (wipeD σ own) (SH b S g) = .ok σ1 (SH b S g) ∧ Drw b g (P i) (elt σ1 (SH b S g))) :
    ∃ vs S', fLc own (iRg1 fa) tgt fYes elt σ (SH b S g) = .ok (.lst (SH b S' g).length) (SH b S' g ++ [.lst vs]) ∧ Gd S' ∧ vs.length = n ∧ ∀ (j : Nat) (v : D), vs[j]? = some v → P j v := by
  obtain ⟨vs, S', e1, g', l', ps⟩ := lcGo_drw (b := b) (g := g) (chk := fun h => (It'.vals ((List.range n).map fun i : Nat => D.int (i : Int))).chk ((List.range n).map fun i : Nat => D.int (i : Int)) h) (tgt := tgt) (elt := elt) (σ0 := wipeD σ own) (fun _ => rfl) P ((List.range n).map fun i : Nat => D.int (i : Int)) 0 [] S hS (fun j d S ej z => by
    rw [List.getElem?_map, Option.map_eq_some_iff] at ej
    obtain ⟨i, ej, rfl⟩ := ej
    obtain ⟨hj, rfl⟩ := List.getElem?_eq_some_iff.mp ej
    rw [List.getElem_range, Nat.zero_add]
    exact hs j S (by simpa using hj) z)
  refine ⟨vs, S', ?_, g', by simpa using l', fun j v e => by have := ps j v e; rwa [Nat.zero_add] at this⟩
  rw [fLc_eq (iRg1_eq e l) rfl (by simpa using l), e1, List.nil_append]
  rfl
theorem fLc_drw_seq {b g : MH} {own : List Nat} {fe : FE} {tgt : FG} {elt : FE} {σ : Sg} {S : List Int × Int} {d : D} {ds : List D} (hS : Gd S) (s : ∀ S, Sqn (SH b S g) d ds) (e : fe σ (SH b S g) = .ok d (SH b S g)) (l : ds.length ≤ 1000000) (P : Nat → D → Prop)
    (hs : ∀ (i : Nat) (d : D) (S : List Int × Int), ds[i]? = some d → Gd S → ∃ σ1, tgt d (wipeD σ own) (SH b S g) = .ok σ1 (SH b S g) ∧ Drw b g (P i) (elt σ1 (SH b S g))) :
    ∃ vs S', fLc own (iSeq fe) tgt fYes elt σ (SH b S g) = .ok (.lst (SH b S' g).length) (SH b S' g ++ [.lst vs]) ∧ Gd S' ∧ vs.length = ds.length ∧ ∀ (j : Nat) (v : D), vs[j]? = some v → P j v := by
  obtain ⟨it, h1, h2, h3⟩ : ∃ it, iSeq fe σ (SH b S g) = .ok it (SH b S g) ∧ it.items (SH b S g) = some ds ∧ ∀ S', it.chk ds (SH b S' g) = true := by
    have key : ∀ S', Sqn (SH b S' g) d ds := s
    rcases s S with rfl | rfl | ⟨n, rfl, e'⟩
    · exact ⟨.vals ds, by simp [iSeq, e], rfl, fun _ => rfl⟩
    · exact ⟨.vals ds, by simp [iSeq, e], rfl, fun _ => rfl⟩
    · refine ⟨.lst n, by simp [iSeq, e], items_lst e', fun S' => ?_⟩
      rcases key S' with z | z | ⟨n', z, e''⟩
      · cases z
      · cases z
      · cases z; exact chk_lst e''
  obtain ⟨vs, S', e1, g', l', ps⟩ := lcGo_drw (b := b) (g := g) (chk := fun h => it.chk ds h) (tgt := tgt) (elt := elt) (σ0 := wipeD σ own) h3 P ds 0 [] S hS (fun j d S ej z => by rw [Nat.zero_add]; exact hs j d S ej z)
  refine ⟨vs, S', ?_, g', l', fun j v e => by have := ps j v e; rwa [Nat.zero_add] at this⟩
  rw [fLc_eq h1 h2 l, e1, List.nil_append]
  rfl
/-! ### trees -/
/-- the node behind, or none -/
def eP : Option Nat → D
  | none => .non
  | some k => .int k
theorem eP_inj {p q : Option Nat} : eP p = eP q ↔ p = q := by
  cases p <;> cases q <;> simp [eP] <;> omega
@[simp] theorem eP_pu (p : Option Nat) : (eP p).pu = true := by cases p <;> rfl
theorem flat_eP (p : Option Nat) : Flat (eP p) := by cases p <;> exact ⟨rfl, by simp [eP, D.dep]⟩
theorem flat_int (i : Int) : Flat (.int i) := ⟨rfl, by simp [D.dep]⟩
/-- a tree whose nodes have these nodes behind them -/
def TreeD (t : D) (ps : List (Option Nat)) : Prop := ∃ a b nodes, t = .tup [a, b, .tup nodes] ∧ nodes.length = ps.length ∧ ∀ (k : Nat) (p : Option Nat), ps[k]? = some p → ∃ r, nodes[k]? = some (.tup [eP p, r])
/-- the nodes ahead of a node -/
def kd (ps : List (Option Nat)) (k : Nat) : List Nat := (List.range ps.length).filter fun j => ps[j]? == some (some k)
theorem mem_kd {ps : List (Option Nat)} {k j : Nat} : j ∈ kd ps k ↔ ps[j]? = some (some k) := by
  unfold kd
  rw [List.mem_filter, List.mem_range]
  constructor
  · intro h; simpa using h.2
  · intro h; exact ⟨(List.getElem?_eq_some_iff.mp h).1, by simpa using h⟩
def eI (k : Nat) : D := .int k
theorem eIs_pu (ks : List Nat) : D.puL (ks.map eI) = true := (puL_iff _).mpr fun d m => by obtain ⟨q, _, rfl⟩ := List.mem_map.mp m; rfl
theorem flatL_eI (ks : List Nat) : FlatL (ks.map eI) := fun d m => by obtain ⟨q, _, rfl⟩ := List.mem_map.mp m; exact flat_int _
theorem eI_inj {p q : Nat} : eI p = eI q ↔ p = q := by simp [eI]; omega
theorem eIs_inj {p q : List Nat} : p.map eI = q.map eI ↔ p = q := ⟨fun h => (List.map_inj_right fun a b => eI_inj.mp).mp h, fun h => by rw [h]⟩
section
variable {t : D} {ps : List (Option Nat)}
theorem TreeD.nodes (T : TreeD t ps) (h : MH) : ∃ nodes, dIx t (.int 2) h = .ok (.tup nodes) h ∧ nodes.length = ps.length ∧ ∀ (k : Nat) (p : Option Nat), ps[k]? = some p → ∃ r, dIx (.tup nodes) (.int k) h = .ok (.tup [eP p, r]) h := by
  obtain ⟨a, b, nodes, rfl, l, e⟩ := T
  refine ⟨nodes, v_ix2, l, fun k p ek => ?_⟩
  obtain ⟨r, e⟩ := e k p ek
  exact ⟨r, v_ix rfl (atI_nat' e)⟩
theorem ahead_lc (T : TreeD t ps) (l : ps.length ≤ 1000000) (k : Nat) (h : MH) (s : Option D) : fLc [2] (iRg1 (fCB cLen (fCons (fOp dIx (fVar 0) (fC (.int 2))) fNil))) (gNm 2) (fTst (fOp dEq (fOp dIx (fOp dIx (fOp dIx (fVar 0) (fC (.int 2))) (fVar 2)) (fC (.int 0))) (fVar 1))) (fVar 2) [some t, some (.int k), s] h = .ok (.lst h.length) (h ++ [.lst ((kd ps k).map eI)]) := by
  obtain ⟨nodes, e1, e2, e3⟩ := T.nodes h
  refine fLc_rgf (n := ps.length) (by simp [e1, e2]) l (fun j => ps[j]? == some (some k)) eI ?_
  intro i hi
  obtain ⟨p, ep⟩ : ∃ p, ps[i]? = some p := ⟨_, List.getElem?_eq_getElem hi⟩
  obtain ⟨r, e4⟩ := e3 i p ep
  refine ⟨_, rfl, ?_, fun _ => by simp [wipeD, eI]⟩
  simp only [wipeD, ev_tst, ev_op, ev_var, List.set_cons_succ, List.set_cons_zero, List.getElem?_cons_zero, List.getElem?_cons_succ, bind_ok, ev_c, e1, e4, v_ix0, v_eq (flat_eP p) (flat_int k), ev_toB, ep]
  congr 1
  rw [Bool.eq_iff_iff]
  cases p <;> simp [eP]
  omega
theorem e_ahead (T : TreeD t ps) (l : ps.length ≤ 1000000) (k : Nat) {h : MH} (c : Clo h) : m_ahead [t, .int k] h = .ok (.lst h.length) (h ++ [.lst ((kd ps k).map eI)]) := by
  unfold m_ahead mOf b_ahead
  simp only [startD_cons, startD_nil, List.replicate_succ, List.replicate_zero, ev_ret, ev_gc, ahead_lc T l k h, gc_np c (eIs_pu _), bind_ok, ev_retR_rt]
theorem e_Lkids (T : TreeD t ps) (l : ps.length ≤ 1000000) (k : Nat) {h : MH} (c : Clo h) : m_Lkids [t, .int k] h = .ok (.lst h.length) (h ++ [.lst ((kd ps k).map eI)]) := by
  unfold m_Lkids mOf b_Lkids
  simp only [startD_cons, startD_nil, List.replicate_succ, List.replicate_zero, ev_ret, ev_gc, ahead_lc T l k h, gc_np c (eIs_pu _), bind_ok, ev_retR_rt]
/-- len(ahead(tree, node)), swept -/
theorem len_ahead (T : TreeD t ps) (l : ps.length ≤ 1000000) (k : Nat) {h : MH} (c : Clo h) : gcR h.length (cLen [.lst h.length] (h ++ [.lst ((kd ps k).map eI)])) = .ok (.int (kd ps k).length) h := by
  rw [v_len (ds := (kd ps k).map eI) (dI_lst (by simp)), gc_dp c rfl, List.length_map]
theorem e_is_last (T : TreeD t ps) (l : ps.length ≤ 1000000) (k : Nat) {h : MH} (c : Clo h) : m_is_last [t, .int k] h = .ok (.bl (decide ((kd ps k) = []))) h := by
  unfold m_is_last mOf b_is_last
  simp [e_ahead T l k c, gc_np c (eIs_pu _), len_ahead T l k c]
end
def eRow (v : D) (n : Nat) (P : Rat → Prop) : Prop := ∃ qs : List Rat, v = eR qs ∧ qs.length = n ∧ ∀ q ∈ qs, P q
theorem e_Lrow {b g : MH} {S : List Int × Int} (hS : Gd S) (c : CloS b g) {t : D} {ps : List (Option Nat)} (T : TreeD t ps) (l : ps.length ≤ 1000000) :
    Drw b g (fun d => ∃ qs : List Rat, d = eR qs ∧ qs.length = ps.length ∧ SzL 2 qs) (m_Lrow [.lst (b.length + 1), t] (SH b S g)) := by
  unfold m_Lrow mOf b_Lrow
  obtain ⟨nodes, e1, e2, e3⟩ := T.nodes (SH b S g)
  have hx : ∀ S, dIx t (.int 2) (SH b S g) = .ok (.tup nodes) (SH b S g) := by
    obtain ⟨a, b', nodes', rfl, _, _⟩ := T
    intro S
    rw [v_ix2] at e1
    cases e1
    exact v_ix2
  obtain ⟨vs, S', e, g', lv, hv⟩ := fLc_drw_seq (b := b) (g := g) (own := [2]) (fe := fOp dIx (fVar 1) (fC (.int 2))) (tgt := gNm 2) (elt := fGc (fCall 2 m_Lfraction (fCons (fVar 0) (fCons (fC (.int 3)) fNil)))) (σ := [some (.lst (b.length + 1)), some t, none]) (S := S) (d := .tup nodes) (ds := nodes) hS (fun _ => .inl rfl) (by simp [hx]) (by omega) (fun _ d => ∃ u v : Int, d = eQ (Q u v) ∧ -3 ≤ u ∧ u ≤ 3 ∧ 1 ≤ v ∧ v ≤ 3) (by
    intro i d S _ hS
    obtain ⟨d', S', e, g', p⟩ := e_Lfraction (b := b) (g := g) hS
    exact ⟨_, rfl, d', S', by simp [wipeD, e, gc_SH0], g', p⟩)
  have : ∃ qs : List Rat, vs = qs.map eQ ∧ SzL 2 qs := by
    clear e lv
    induction vs with
    | nil => exact ⟨[], rfl, fun _ m => by cases m⟩
    | cons v vs ih =>
      obtain ⟨qs, rfl, z⟩ := ih fun j v e => hv (j + 1) v (by simpa using e)
      obtain ⟨u, v', rfl, h1, h2, h3, h4⟩ := hv 0 v rfl
      refine ⟨Q u v' :: qs, rfl, fun q m => ?_⟩
      rcases List.mem_cons.mp m with rfl | m
      · exact sz_divInt (by omega) (by omega) (by omega)
      · exact z q m
  obtain ⟨qs, rfl, z⟩ := this
  refine ⟨eR qs, S', ?_, g', qs, rfl, by rw [List.length_map] at lv; omega, z⟩
  simp only [startD_cons, startD_nil, List.replicate_succ, List.replicate_zero, ev_ret, ev_gc, ev_cb, ev_cons, ev_nil, e, gc_SHn c SH_length (eQs_pu qs), bind_ok]
  have hc : cTup [.lst (SH b S g).length] (SH b S' (g ++ [.lst (qs.map eQ)])) = .ok (eR qs) (SH b S' (g ++ [.lst (qs.map eQ)])) := v_tup_lst (by rw [SH_length, show b.length + (g.length + 2) = b.length + 2 + g.length by omega, SH_g]; simp)
  rw [hc, gc_SH c SH_length (eR_pu _), bind_ok, ev_retR_rt, gc_SH0 SH_length]
/-! ### comprehensions over what is given as a row of some kind -/
theorem sqn_app {h g : MH} {d : D} {ds : List D} (s : Sqn h d ds) : Sqn (h ++ g) d ds := by
  rcases s with rfl | rfl | ⟨n, rfl, e⟩
  · exact .inl rfl
  · exact .inr (.inl rfl)
  · refine .inr (.inr ⟨n, rfl, ?_⟩)
    rw [List.getElem?_append_left (List.getElem?_eq_some_iff.mp e).1]
    exact e
theorem sqn_t {h : MH} {ds : List D} : Sqn h (.tup ds) ds := .inl rfl
theorem sqn_l {h : MH} {n : Nat} {ds : List D} (e : h[n]? = some (.lst ds)) : Sqn h (.lst n) ds := .inr (.inr ⟨n, rfl, e⟩)
theorem sqn_new {h : MH} {ds : List D} : Sqn (h ++ [.lst ds]) (.lst h.length) ds := sqn_l (by simp)
theorem lcGo_mp {α : Type} {chk : MH → Bool} {tgt : FG} {tst : FT} {elt : FE} {σ0 : Sg} {h : MH} (hc : chk h = true) (e : α → D) (p : α → Bool) (f : α → D) : ∀ (xs : List α) (acc : List D),
    (∀ x ∈ xs, ∃ σ1, tgt (e x) σ0 h = .ok σ1 h ∧ tst σ1 h = .ok (p x) h ∧ (p x = true → elt σ1 h = .ok (f x) h)) →
    lcGo chk tgt tst elt σ0 (xs.map e) acc h = .ok (acc ++ (xs.filter p).map f) h
  | [], acc, _ => by simp [lcGo, hc]
  | d :: ds, acc, hs => by
    obtain ⟨σ1, e1, e2, e3⟩ := hs d (List.mem_cons_self ..)
    have ih := lcGo_mp (chk := chk) (tgt := tgt) (tst := tst) (elt := elt) (σ0 := σ0) hc e p f ds
    rw [List.map_cons, lcGo, if_pos hc, e1, noX_ok, bind_ok, e2, noX_ok, bind_ok]
    cases hp : p d with
    | true =>
      rw [if_pos rfl, e3 hp, noX_ok, bind_ok, ih _ fun d' m => hs d' (List.mem_cons_of_mem _ m), List.filter_cons_of_pos hp]
      simp
    | false =>
      rw [if_neg (by simp), ih _ fun d' m => hs d' (List.mem_cons_of_mem _ m), List.filter_cons_of_neg (by simp [hp])]
theorem fLc_mp {α : Type} {own : List Nat} {fe : FE} {tgt : FG} {tst : FT} {elt : FE} {σ : Sg} {h : MH} {d : D} (e : α → D) (xs : List α) (s : Sqn h d (xs.map e)) (ee : fe σ h = .ok d h) (l : xs.length ≤ 1000000) (p : α → Bool) (f : α → D)
    (hs : ∀ x ∈ xs, ∃ σ1, tgt (e x) (wipeD σ own) h = .ok σ1 h ∧ tst σ1 h = .ok (p x) h ∧ (p x = true → elt σ1 h = .ok (f x) h)) : fLc own (iSeq fe) tgt tst elt σ h = .ok (.lst h.length) (h ++ [.lst ((xs.filter p).map f)]) := by
  obtain ⟨it, e1, e2, e3⟩ := s.it ee
  rw [fLc_eq e1 e2 (by simpa using l), lcGo_mp e3 e p f xs [] hs]
  rfl
/-- without a test -/
theorem fLc_mpy {α : Type} {own : List Nat} {fe : FE} {tgt : FG} {elt : FE} {σ : Sg} {h : MH} {d : D} (e : α → D) (xs : List α) (s : Sqn h d (xs.map e)) (ee : fe σ h = .ok d h) (l : xs.length ≤ 1000000) (f : α → D)
    (hs : ∀ x ∈ xs, ∃ σ1, tgt (e x) (wipeD σ own) h = .ok σ1 h ∧ elt σ1 h = .ok (f x) h) : fLc own (iSeq fe) tgt fYes elt σ h = .ok (.lst h.length) (h ++ [.lst (xs.map f)]) := by
  rw [fLc_mp (tst := fYes) e xs s ee l (fun _ => true) f fun x m => let ⟨σ1, a, b⟩ := hs x m; ⟨σ1, a, rfl, fun _ => b⟩, List.filter_eq_self.mpr fun _ _ => rfl]
theorem v_ixM {α : Type} {h : MH} {d : D} {e : α → D} {xs : List α} (s : Sqn h d (xs.map e)) {i : Nat} {x : α} (ex : xs[i]? = some x) : dIx d (.int i) h = .ok (e x) h :=
  v_ix s.dI (atI_nat' (by rw [List.getElem?_map, ex]; rfl))
theorem v_lenM {α : Type} {h : MH} {d : D} {e : α → D} {xs : List α} (s : Sqn h d (xs.map e)) : cLen [d] h = .ok (.int xs.length) h := by rw [v_len s.dI, List.length_map]
/-! ### what is a part -/
theorem all_gc {h : MH} (c : Clo h) {bs : List Bool} : gcR h.length (cAll [.lst h.length] (h ++ [.lst (bs.map D.bl)])) = .ok (.bl (bs.all id)) h := by
  rw [v_all (bs := bs) (by simp), gc_dp c rfl]
theorem any_gc {h : MH} (c : Clo h) {bs : List Bool} : gcR h.length (cAny [.lst h.length] (h ++ [.lst (bs.map D.bl)])) = .ok (.bl (bs.any id)) h := by
  rw [v_any (bs := bs) (by simp), gc_dp c rfl]
theorem tup_gc {h : MH} (c : Clo h) {ds : List D} (p : D.puL ds = true) : gcR h.length (cTup [.lst h.length] (h ++ [.lst ds])) = .ok (.tup ds) h := by
  rw [v_tup_lst (ds := ds) (by simp), gc_dp c (show (D.tup ds).pu = true from p)]
theorem len_gc {h : MH} (c : Clo h) {ds : List D} : gcR h.length (cLen [.lst h.length] (h ++ [.lst ds])) = .ok (.int ds.length) h := by
  rw [v_len (ds := ds) (dI_lst (by simp)), gc_dp c rfl]
theorem bls_pu (bs : List Bool) : D.puL (bs.map D.bl) = true := (puL_iff _).mpr fun d m => by obtain ⟨q, _, rfl⟩ := List.mem_map.mp m; rfl
theorem e_is_part {q : Rat} {h : MH} (c : Clo h) : m_is_part [eQ q] h = .ok (.bl true) h := by
  unfold m_is_part mOf b_is_part
  have h1 := fLc_mpy (own := [1]) (fe := fVar 0) (tgt := gNm 1) (elt := fAndV (fIsi "int" (fVar 1)) (fNotV (fIsi "bool" (fVar 1)))) (σ := [some (eQ q), none]) (h := h) (d := eQ q) D.int [q.num, (q.den : Int)] sqn_t (by simp) (by simp) (fun _ => .bl true) (by
    intro x _
    exact ⟨_, rfl, by simp [wipeD]⟩)
  have h2 : gcR h.length (.ok (.lst h.length) (h ++ [.lst ([q.num, (q.den : Int)].map fun _ => D.bl true)])) = .ok (.lst h.length) (h ++ [.lst ([true, true].map D.bl)]) := gc_np c rfl
  have h3 := all_gc c (bs := [true, true])
  have hd : (1 : Int) ≤ q.den := by have := q.den_nz; omega
  have hg : (Int.gcd q.num q.den : Int) = 1 := by
    have := q.reduced
    simp only [Int.gcd, Int.natAbs_natCast]
    unfold Nat.Coprime at this
    omega
  have ht : isT (eQ q) = true := rfl
  have hl : cLen [eQ q] h = .ok (.int 2) h := rfl
  simp only [startD_cons, startD_nil, List.replicate_succ, List.replicate_zero, ev_seq, ev_if, ev_orT, ev_notT, ev_tru, ev_isi, ev_var, List.getElem?_cons_zero, List.getElem?_cons_succ, bind_ok, kb_tup, ht, v_truB, Bool.not_true, Bool.false_eq_true, if_false, ev_tst, ev_op, ev_cb, ev_cons, ev_nil, hl, ev_c, v_neI, ev_toB, decide_true, ev_nx, ev_gc, h1, h2, h3, List.all_cons, List.all_nil, id, Bool.and_true, ev_ret, ev_andV, v_pd, v_pn, dGe, v_cmpI, hd, if_true, ev_call, List.length_cons, List.length_nil, e_divisor, gc_same, v_eqI, hg, ev_retR_rt]
theorem e_are_parts {qs : List Rat} {n : Nat} {h : MH} (c : Clo h) (l : qs.length ≤ 1000000) : m_are_parts [eR qs, .int n] h = .ok (.bl (decide (qs.length = n))) h := by
  unfold m_are_parts mOf b_are_parts
  have h1 := fLc_mpy (own := [2]) (fe := fVar 0) (tgt := gNm 2) (elt := fGc (fCall 1 m_is_part (fCons (fVar 2) fNil))) (σ := [some (eR qs), some (.int n), none]) (h := h) (d := eR qs) eQ qs sqn_t (by simp) l (fun _ => .bl true) (by
    intro x _
    exact ⟨_, rfl, by simp [wipeD, e_is_part c]⟩)
  have h2 : gcR h.length (.ok (.lst h.length) (h ++ [.lst (qs.map fun _ => D.bl true)])) = .ok (.lst h.length) (h ++ [.lst ((qs.map fun _ => true).map D.bl)]) := by
    rw [show (qs.map fun _ => D.bl true) = (qs.map fun _ => true).map D.bl by simp]
    exact gc_np c (bls_pu _)
  have h3 := all_gc c (bs := qs.map fun _ => true)
  have h4 : (qs.map fun _ => true).all id = true := by simp
  have ht : isT (eR qs) = true := rfl
  have hl : cLen [eR qs] h = .ok (.int qs.length) h := by show Res.ok (D.int ((qs.map eQ).length : Nat)) h = _; rw [List.length_map]
  have hn : decide ((qs.length : Int) = n) = decide (qs.length = n) := by rw [decide_eq_decide]; omega
  simp only [startD_cons, startD_nil, List.replicate_succ, List.replicate_zero, ev_ret, ev_andV, ev_isi, ev_var, List.getElem?_cons_zero, List.getElem?_cons_succ, bind_ok, kb_tup, ht, v_truB, if_true, ev_op, ev_cb, ev_cons, ev_nil, hl, v_eqI, hn]
  by_cases hq : qs.length = n
  · simp only [hq, decide_true, if_true, ev_gc, h1, h2, bind_ok, ev_cb, ev_cons, ev_nil, h3, h4, ev_retR_rt, gc_same]
  · simp only [hq, decide_false, Bool.false_eq_true, if_false, bind_ok, ev_retR_rt, gc_same]
theorem e_are_partsX {d : D} {n : Int} {h : MH} (t : isT d = false) : m_are_parts [d, .int n] h = .ok (.bl false) h := by
  unfold m_are_parts mOf b_are_parts
  simp [t]
end Sq

namespace Lw
open PySem PySem.Spec PyProof.Rows L2 Sm Sq
def top (i : Nat) : Stmt := PySem.Challenge.pw_promisewright_k47_whole_chances_and_wors.main.body.getD i (.Pass ⟨0, 0, 0, 0⟩)
abbrev CXL : CXT := CX0
abbrev HasL (P : Program) (w : World) (K : PySem.W.Frag) (mg : Str → Option Value) (base : Heap) (x : Str) (ps : List Str) (k : Nat) (m : DCl) : Prop := Has P w K mg base CXL x ps k m
structure Bi (mg : Str → Option Value) : Prop where
  abs_ : mg "abs" = none
  all_ : mg "all" = none
  any_ : mg "any" = none
  bool_ : mg "bool" = none
  int_ : mg "int" = none
  isinstance_ : mg "isinstance" = none
  len_ : mg "len" = none
  list_ : mg "list" = none
  range_ : mg "range" = none
  sum_ : mg "sum" = none
  tuple_ : mg "tuple" = none
def c_ONE : D := .tup [(.int 1), (.int 1)]
section
variable {P : Program} {w : World} {K : PySem.W.Frag} {mg : Str → Option Value} {base : Heap}
/-! ### divisor -/
abbrev N_divisor : List Str := ["one", "other"]
theorem sc_divisor : FnScope N_divisor ["one", "other"] (defScope (top 1)) := ⟨rfl, rfl, rfl, by decide +kernel, rfl, by decide +kernel, by decide +kernel⟩
theorem ok_divisor (B : Bi mg)  {f : Addr} {cdv : Value} {A : Around} {outer : List Env} {s : Shared} {H : Hp} {E : XK} (hr0 : Room 0 (A.deeper (envOfC "divisor" (defScope (top 1)) s.heap.objs.size f cdv))) :
    OkSs (cxOf CXL P w K mg base N_divisor "divisor" (defScope (top 1)) f cdv A outer s H E) E (defBody (top 1)) b_divisor :=
  (r_ss (r_par 0 1 rfl sc_divisor.nd (r_cons (r_callB k_abs B.abs_ (r_cons (r_var 0) r_nil)) (r_cons (r_callB k_abs B.abs_ (r_cons (r_var 1) r_nil)) r_nil))) (r_ss (r_while own_any (r_tcmp (o_ne (hu65 hr0)) (r_var 1) r_int) (r_ss_one (r_par 0 1 rfl sc_divisor.nd (r_cons (r_var 1) (r_cons (r_op o_mod (r_var 0) (r_var 1)) r_nil))))) (r_ss_one (r_ret (r_var 0)))))
theorem has_divisor (B : Bi mg)  (l : Lk K mg "divisor" (top 1) ["one", "other"]) : HasL P w K mg base "divisor" ["one", "other"] 1 m_divisor := by
  obtain ⟨f, fd, g, F, b⟩ := l
  exact has_of g F b sc_divisor b_divisor fun cdv A outer s H E hr => ok_divisor B hr
/-! ### part -/
abbrev N_part : List Str := ["above", "below", "common"]
theorem sc_part : FnScope N_part ["above", "below"] (defScope (top 2)) := ⟨rfl, rfl, rfl, by decide +kernel, rfl, by decide +kernel, by decide +kernel⟩
theorem ok_part (B : Bi mg) (h_divisor : HasL P w K mg base "divisor" ["one", "other"] 1 m_divisor) {f : Addr} {cdv : Value} {A : Around} {outer : List Env} {s : Shared} {H : Hp} {E : XK} (hr0 : Room 1 (A.deeper (envOfC "part" (defScope (top 2)) s.heap.objs.size f cdv))) :
    OkSs (cxOf CXL P w K mg base N_part "part" (defScope (top 2)) f cdv A outer s H E) E (defBody (top 2)) b_part :=
  (r_ss (r_if (r_tcmp o_lt (r_var 1) r_int) (r_ss_one (r_par 0 1 rfl sc_part.nd (r_cons (r_op o_sub r_int (r_var 0)) (r_cons (r_op o_sub r_int (r_var 1)) r_nil)))) r_ss_nil) (r_ss (r_set 2 sc_part.nd (r_gc (r_call h_divisor (hr0.mono (by decide)) pass_0 (r_cons (r_var 0) (r_cons (r_var 1) r_nil))))) (r_ss_one (r_ret (r_tup (r_cons (r_op o_fdiv (r_var 0) (r_var 2)) (r_cons (r_op o_fdiv (r_var 1) (r_var 2)) r_nil)))))))
theorem has_part (B : Bi mg) (h_divisor : HasL P w K mg base "divisor" ["one", "other"] 1 m_divisor) (l : Lk K mg "part" (top 2) ["above", "below"]) : HasL P w K mg base "part" ["above", "below"] 2 m_part := by
  obtain ⟨f, fd, g, F, b⟩ := l
  exact has_of g F b sc_part b_part fun cdv A outer s H E hr => ok_part B h_divisor hr
/-! ### is_part -/
abbrev N_is_part : List Str := ["value", "number"]
theorem sc_is_part : FnScope N_is_part ["value"] (defScope (top 3)) := ⟨rfl, rfl, rfl, by decide +kernel, rfl, by decide +kernel, by decide +kernel⟩
theorem ok_is_part (B : Bi mg) (h_divisor : HasL P w K mg base "divisor" ["one", "other"] 1 m_divisor) {f : Addr} {cdv : Value} {A : Around} {outer : List Env} {s : Shared} {H : Hp} {E : XK} (hr0 : Room 1 (A.deeper (envOfC "is_part" (defScope (top 3)) s.heap.objs.size f cdv))) :
    OkSs (cxOf CXL P w K mg base N_is_part "is_part" (defScope (top 3)) f cdv A outer s H E) E (defBody (top 3)) b_is_part :=
  (r_ss (r_if (r_w (r_wor (r_tnot (r_tru (r_isi (T := "tuple") B.isinstance_ B.tuple_ (r_var 0)))) (r_wor1 (r_tcmp (o_ne (hu65 hr0)) (r_callB k_len B.len_ (r_cons (r_var 0) r_nil)) r_int)))) (r_ss_one (r_ret r_bl)) r_ss_nil) (r_ss (r_if (r_tnot (r_tru (r_gc (r_callB (k_all rfl) B.all_ (r_cons (r_gc (r_lc [("number", 1)] rfl sc_is_part.nd (r_iseq (r_var 0)) (fun _ _ _ _ _ => (r_gname 1 sc_is_part.nd)) (fun _ _ _ _ _ => r_ts0) (fun _ _ _ _ _ => (r_and (r_isi (T := "int") B.isinstance_ B.int_ (r_var 1)) (r_one (r_not (r_isi (T := "bool") B.isinstance_ B.bool_ (r_var 1)))))))) r_nil))))) (r_ss_one (r_ret r_bl)) r_ss_nil) (r_ss_one (r_ret (r_and (r_cmp o_ge (r_ix (r_var 0) r_int) r_int) (r_one (r_gc (r_cmp (o_eq (hu65 hr0)) (r_gc (r_call h_divisor (hr0.mono (by decide)) pass_0 (r_cons (r_ix (r_var 0) r_int) (r_cons (r_ix (r_var 0) r_int) r_nil)))) r_int))))))))
theorem has_is_part (B : Bi mg) (h_divisor : HasL P w K mg base "divisor" ["one", "other"] 1 m_divisor) (l : Lk K mg "is_part" (top 3) ["value"]) : HasL P w K mg base "is_part" ["value"] 2 m_is_part := by
  obtain ⟨f, fd, g, F, b⟩ := l
  exact has_of g F b sc_is_part b_is_part fun cdv A outer s H E hr => ok_is_part B h_divisor hr
/-! ### are_parts -/
abbrev N_are_parts : List Str := ["value", "many", "one"]
theorem sc_are_parts : FnScope N_are_parts ["value", "many"] (defScope (top 4)) := ⟨rfl, rfl, rfl, by decide +kernel, rfl, by decide +kernel, by decide +kernel⟩
theorem ok_are_parts (B : Bi mg) (h_is_part : HasL P w K mg base "is_part" ["value"] 2 m_is_part) {f : Addr} {cdv : Value} {A : Around} {outer : List Env} {s : Shared} {H : Hp} {E : XK} (hr0 : Room 2 (A.deeper (envOfC "are_parts" (defScope (top 4)) s.heap.objs.size f cdv))) :
    OkSs (cxOf CXL P w K mg base N_are_parts "are_parts" (defScope (top 4)) f cdv A outer s H E) E (defBody (top 4)) b_are_parts :=
  (r_ss_one (r_ret (r_and (r_isi (T := "tuple") B.isinstance_ B.tuple_ (r_var 0)) (r_and (r_cmp (o_eq (hu65 hr0)) (r_callB k_len B.len_ (r_cons (r_var 0) r_nil)) (r_var 1)) (r_one (r_gc (r_callB (k_all rfl) B.all_ (r_cons (r_gc (r_lc [("one", 2)] rfl sc_are_parts.nd (r_iseq (r_var 0)) (fun _ _ _ _ _ => (r_gname 2 sc_are_parts.nd)) (fun _ _ _ _ _ => r_ts0) (fun _ _ _ _ _ => (r_gc (r_call h_is_part (hr0.mono (by decide)) pass_0 (r_cons (r_var 2) r_nil)))))) r_nil))))))))
theorem has_are_parts (B : Bi mg) (h_is_part : HasL P w K mg base "is_part" ["value"] 2 m_is_part) (l : Lk K mg "are_parts" (top 4) ["value", "many"]) : HasL P w K mg base "are_parts" ["value", "many"] 3 m_are_parts := by
  obtain ⟨f, fd, g, F, b⟩ := l
  exact has_of g F b sc_are_parts b_are_parts fun cdv A outer s H E hr => ok_are_parts B h_is_part hr
/-! ### plus -/
abbrev N_plus : List Str := ["one", "other"]
theorem sc_plus : FnScope N_plus ["one", "other"] (defScope (top 5)) := ⟨rfl, rfl, rfl, by decide +kernel, rfl, by decide +kernel, by decide +kernel⟩
theorem ok_plus (B : Bi mg) (h_part : HasL P w K mg base "part" ["above", "below"] 2 m_part) {f : Addr} {cdv : Value} {A : Around} {outer : List Env} {s : Shared} {H : Hp} {E : XK} (hr0 : Room 2 (A.deeper (envOfC "plus" (defScope (top 5)) s.heap.objs.size f cdv))) :
    OkSs (cxOf CXL P w K mg base N_plus "plus" (defScope (top 5)) f cdv A outer s H E) E (defBody (top 5)) b_plus :=
  (r_ss_one (r_ret (r_gc (r_call h_part (hr0.mono (by decide)) pass_0 (r_cons (r_op o_add (r_op o_mul (r_ix (r_var 0) r_int) (r_ix (r_var 1) r_int)) (r_op o_mul (r_ix (r_var 1) r_int) (r_ix (r_var 0) r_int))) (r_cons (r_op o_mul (r_ix (r_var 0) r_int) (r_ix (r_var 1) r_int)) r_nil))))))
theorem has_plus (B : Bi mg) (h_part : HasL P w K mg base "part" ["above", "below"] 2 m_part) (l : Lk K mg "plus" (top 5) ["one", "other"]) : HasL P w K mg base "plus" ["one", "other"] 3 m_plus := by
  obtain ⟨f, fd, g, F, b⟩ := l
  exact has_of g F b sc_plus b_plus fun cdv A outer s H E hr => ok_plus B h_part hr
/-! ### minus -/
abbrev N_minus : List Str := ["one", "other"]
theorem sc_minus : FnScope N_minus ["one", "other"] (defScope (top 6)) := ⟨rfl, rfl, rfl, by decide +kernel, rfl, by decide +kernel, by decide +kernel⟩
theorem ok_minus (B : Bi mg) (h_part : HasL P w K mg base "part" ["above", "below"] 2 m_part) {f : Addr} {cdv : Value} {A : Around} {outer : List Env} {s : Shared} {H : Hp} {E : XK} (hr0 : Room 2 (A.deeper (envOfC "minus" (defScope (top 6)) s.heap.objs.size f cdv))) :
    OkSs (cxOf CXL P w K mg base N_minus "minus" (defScope (top 6)) f cdv A outer s H E) E (defBody (top 6)) b_minus :=
  (r_ss_one (r_ret (r_gc (r_call h_part (hr0.mono (by decide)) pass_0 (r_cons (r_op o_sub (r_op o_mul (r_ix (r_var 0) r_int) (r_ix (r_var 1) r_int)) (r_op o_mul (r_ix (r_var 1) r_int) (r_ix (r_var 0) r_int))) (r_cons (r_op o_mul (r_ix (r_var 0) r_int) (r_ix (r_var 1) r_int)) r_nil))))))
theorem has_minus (B : Bi mg) (h_part : HasL P w K mg base "part" ["above", "below"] 2 m_part) (l : Lk K mg "minus" (top 6) ["one", "other"]) : HasL P w K mg base "minus" ["one", "other"] 3 m_minus := by
  obtain ⟨f, fd, g, F, b⟩ := l
  exact has_of g F b sc_minus b_minus fun cdv A outer s H E hr => ok_minus B h_part hr
/-! ### times -/
abbrev N_times : List Str := ["one", "other"]
theorem sc_times : FnScope N_times ["one", "other"] (defScope (top 7)) := ⟨rfl, rfl, rfl, by decide +kernel, rfl, by decide +kernel, by decide +kernel⟩
theorem ok_times (B : Bi mg) (h_part : HasL P w K mg base "part" ["above", "below"] 2 m_part) {f : Addr} {cdv : Value} {A : Around} {outer : List Env} {s : Shared} {H : Hp} {E : XK} (hr0 : Room 2 (A.deeper (envOfC "times" (defScope (top 7)) s.heap.objs.size f cdv))) :
    OkSs (cxOf CXL P w K mg base N_times "times" (defScope (top 7)) f cdv A outer s H E) E (defBody (top 7)) b_times :=
  (r_ss_one (r_ret (r_gc (r_call h_part (hr0.mono (by decide)) pass_0 (r_cons (r_op o_mul (r_ix (r_var 0) r_int) (r_ix (r_var 1) r_int)) (r_cons (r_op o_mul (r_ix (r_var 0) r_int) (r_ix (r_var 1) r_int)) r_nil))))))
theorem has_times (B : Bi mg) (h_part : HasL P w K mg base "part" ["above", "below"] 2 m_part) (l : Lk K mg "times" (top 7) ["one", "other"]) : HasL P w K mg base "times" ["one", "other"] 3 m_times := by
  obtain ⟨f, fd, g, F, b⟩ := l
  exact has_of g F b sc_times b_times fun cdv A outer s H E hr => ok_times B h_part hr
/-! ### over -/
abbrev N_over : List Str := ["one", "other"]
theorem sc_over : FnScope N_over ["one", "other"] (defScope (top 8)) := ⟨rfl, rfl, rfl, by decide +kernel, rfl, by decide +kernel, by decide +kernel⟩
theorem ok_over (B : Bi mg) (h_part : HasL P w K mg base "part" ["above", "below"] 2 m_part) {f : Addr} {cdv : Value} {A : Around} {outer : List Env} {s : Shared} {H : Hp} {E : XK} (hr0 : Room 2 (A.deeper (envOfC "over" (defScope (top 8)) s.heap.objs.size f cdv))) :
    OkSs (cxOf CXL P w K mg base N_over "over" (defScope (top 8)) f cdv A outer s H E) E (defBody (top 8)) b_over :=
  (r_ss_one (r_ret (r_gc (r_call h_part (hr0.mono (by decide)) pass_0 (r_cons (r_op o_mul (r_ix (r_var 0) r_int) (r_ix (r_var 1) r_int)) (r_cons (r_op o_mul (r_ix (r_var 0) r_int) (r_ix (r_var 1) r_int)) r_nil))))))
theorem has_over (B : Bi mg) (h_part : HasL P w K mg base "part" ["above", "below"] 2 m_part) (l : Lk K mg "over" (top 8) ["one", "other"]) : HasL P w K mg base "over" ["one", "other"] 3 m_over := by
  obtain ⟨f, fd, g, F, b⟩ := l
  exact has_of g F b sc_over b_over fun cdv A outer s H E hr => ok_over B h_part hr
/-! ### negative -/
abbrev N_negative : List Str := ["one"]
theorem sc_negative : FnScope N_negative ["one"] (defScope (top 9)) := ⟨rfl, rfl, rfl, by decide +kernel, rfl, by decide +kernel, by decide +kernel⟩
theorem ok_negative (B : Bi mg)  {f : Addr} {cdv : Value} {A : Around} {outer : List Env} {s : Shared} {H : Hp} {E : XK} (hr0 : Room 0 (A.deeper (envOfC "negative" (defScope (top 9)) s.heap.objs.size f cdv))) :
    OkSs (cxOf CXL P w K mg base N_negative "negative" (defScope (top 9)) f cdv A outer s H E) E (defBody (top 9)) b_negative :=
  (r_ss_one (r_ret (r_tup (r_cons (r_op o_sub r_int (r_ix (r_var 0) r_int)) (r_cons (r_ix (r_var 0) r_int) r_nil)))))
theorem has_negative (B : Bi mg)  (l : Lk K mg "negative" (top 9) ["one"]) : HasL P w K mg base "negative" ["one"] 1 m_negative := by
  obtain ⟨f, fd, g, F, b⟩ := l
  exact has_of g F b sc_negative b_negative fun cdv A outer s H E hr => ok_negative B hr
/-! ### is_less -/
abbrev N_is_less : List Str := ["one", "other"]
theorem sc_is_less : FnScope N_is_less ["one", "other"] (defScope (top 10)) := ⟨rfl, rfl, rfl, by decide +kernel, rfl, by decide +kernel, by decide +kernel⟩
theorem ok_is_less (B : Bi mg)  {f : Addr} {cdv : Value} {A : Around} {outer : List Env} {s : Shared} {H : Hp} {E : XK} (hr0 : Room 0 (A.deeper (envOfC "is_less" (defScope (top 10)) s.heap.objs.size f cdv))) :
    OkSs (cxOf CXL P w K mg base N_is_less "is_less" (defScope (top 10)) f cdv A outer s H E) E (defBody (top 10)) b_is_less :=
  (r_ss_one (r_ret (r_cmp o_lt (r_op o_mul (r_ix (r_var 0) r_int) (r_ix (r_var 1) r_int)) (r_op o_mul (r_ix (r_var 1) r_int) (r_ix (r_var 0) r_int)))))
theorem has_is_less (B : Bi mg)  (l : Lk K mg "is_less" (top 10) ["one", "other"]) : HasL P w K mg base "is_less" ["one", "other"] 1 m_is_less := by
  obtain ⟨f, fd, g, F, b⟩ := l
  exact has_of g F b sc_is_less b_is_less fun cdv A outer s H E hr => ok_is_less B hr
/-! ### least -/
abbrev N_least : List Str := ["row", "found", "one"]
theorem sc_least : FnScope N_least ["row"] (defScope (top 11)) := ⟨rfl, rfl, rfl, by decide +kernel, rfl, by decide +kernel, by decide +kernel⟩
theorem ok_least (B : Bi mg) (h_is_less : HasL P w K mg base "is_less" ["one", "other"] 1 m_is_less) {f : Addr} {cdv : Value} {A : Around} {outer : List Env} {s : Shared} {H : Hp} {E : XK} (hr0 : Room 1 (A.deeper (envOfC "least" (defScope (top 11)) s.heap.objs.size f cdv))) :
    OkSs (cxOf CXL P w K mg base N_least "least" (defScope (top 11)) f cdv A outer s H E) E (defBody (top 11)) b_least :=
  (r_ss (r_set 1 sc_least.nd r_non) (r_ss (r_for own_any rfl (r_iseq (r_var 0)) (r_gname 2 sc_least.nd) (r_ss_one (r_set 1 sc_least.nd (r_ifE (r_w (r_wor (r_tcmp o_is (r_var 1) r_non) (r_wor1 (r_tru (r_gc (r_call h_is_less (hr0.mono (by decide)) pass_0 (r_cons (r_var 2) (r_cons (r_var 1) r_nil)))))))) (r_var 2) (r_var 1))))) (r_ss_one (r_ret (r_var 1)))))
theorem has_least (B : Bi mg) (h_is_less : HasL P w K mg base "is_less" ["one", "other"] 1 m_is_less) (l : Lk K mg "least" (top 11) ["row"]) : HasL P w K mg base "least" ["row"] 2 m_least := by
  obtain ⟨f, fd, g, F, b⟩ := l
  exact has_of g F b sc_least b_least fun cdv A outer s H E hr => ok_least B h_is_less hr
/-! ### total -/
abbrev N_total : List Str := ["row", "found", "one"]
theorem sc_total : FnScope N_total ["row"] (defScope (top 12)) := ⟨rfl, rfl, rfl, by decide +kernel, rfl, by decide +kernel, by decide +kernel⟩
theorem ok_total (B : Bi mg) (h_plus : HasL P w K mg base "plus" ["one", "other"] 3 m_plus) {f : Addr} {cdv : Value} {A : Around} {outer : List Env} {s : Shared} {H : Hp} {E : XK} (hr0 : Room 3 (A.deeper (envOfC "total" (defScope (top 12)) s.heap.objs.size f cdv))) :
    OkSs (cxOf CXL P w K mg base N_total "total" (defScope (top 12)) f cdv A outer s H E) E (defBody (top 12)) b_total :=
  (r_ss (r_set 1 sc_total.nd (r_tup (r_cons r_int (r_cons r_int r_nil)))) (r_ss (r_for own_any rfl (r_iseq (r_var 0)) (r_gname 2 sc_total.nd) (r_ss_one (r_set 1 sc_total.nd (r_gc (r_call h_plus (hr0.mono (by decide)) pass_0 (r_cons (r_var 1) (r_cons (r_var 2) r_nil))))))) (r_ss_one (r_ret (r_var 1)))))
theorem has_total (B : Bi mg) (h_plus : HasL P w K mg base "plus" ["one", "other"] 3 m_plus) (l : Lk K mg "total" (top 12) ["row"]) : HasL P w K mg base "total" ["row"] 4 m_total := by
  obtain ⟨f, fd, g, F, b⟩ := l
  exact has_of g F b sc_total b_total fun cdv A outer s H E hr => ok_total B h_plus hr
/-! ### dot -/
abbrev N_dot : List Str := ["one", "other", "k"]
theorem sc_dot : FnScope N_dot ["one", "other"] (defScope (top 13)) := ⟨rfl, rfl, rfl, by decide +kernel, rfl, by decide +kernel, by decide +kernel⟩
theorem ok_dot (B : Bi mg) (h_total : HasL P w K mg base "total" ["row"] 4 m_total) (h_times : HasL P w K mg base "times" ["one", "other"] 3 m_times) {f : Addr} {cdv : Value} {A : Around} {outer : List Env} {s : Shared} {H : Hp} {E : XK} (hr0 : Room 4 (A.deeper (envOfC "dot" (defScope (top 13)) s.heap.objs.size f cdv))) :
    OkSs (cxOf CXL P w K mg base N_dot "dot" (defScope (top 13)) f cdv A outer s H E) E (defBody (top 13)) b_dot :=
  (r_ss_one (r_ret (r_gc (r_call h_total (hr0.mono (by decide)) pass_0 (r_cons (r_gc (r_lc [("k", 2)] rfl sc_dot.nd (r_irg1 B.range_ (r_callB k_len B.len_ (r_cons (r_var 0) r_nil))) (fun _ _ _ _ _ => (r_gname 2 sc_dot.nd)) (fun _ _ _ _ _ => r_ts0) (fun _ _ _ _ _ => (r_gc (r_call h_times (hr0.mono (by decide)) pass_0 (r_cons (r_ix (r_var 0) (r_var 2)) (r_cons (r_ix (r_var 1) (r_var 2)) r_nil))))))) r_nil)))))
theorem has_dot (B : Bi mg) (h_total : HasL P w K mg base "total" ["row"] 4 m_total) (h_times : HasL P w K mg base "times" ["one", "other"] 3 m_times) (l : Lk K mg "dot" (top 13) ["one", "other"]) : HasL P w K mg base "dot" ["one", "other"] 5 m_dot := by
  obtain ⟨f, fd, g, F, b⟩ := l
  exact has_of g F b sc_dot b_dot fun cdv A outer s H E hr => ok_dot B h_total h_times hr
/-! ### ahead -/
abbrev N_ahead : List Str := ["tree", "node", "k"]
theorem sc_ahead : FnScope N_ahead ["tree", "node"] (defScope (top 15)) := ⟨rfl, rfl, rfl, by decide +kernel, rfl, by decide +kernel, by decide +kernel⟩
theorem ok_ahead (B : Bi mg)  {f : Addr} {cdv : Value} {A : Around} {outer : List Env} {s : Shared} {H : Hp} {E : XK} (hr0 : Room 0 (A.deeper (envOfC "ahead" (defScope (top 15)) s.heap.objs.size f cdv))) :
    OkSs (cxOf CXL P w K mg base N_ahead "ahead" (defScope (top 15)) f cdv A outer s H E) E (defBody (top 15)) b_ahead :=
  (r_ss_one (r_ret (r_gc (r_lc [("k", 2)] rfl sc_ahead.nd (r_irg1 B.range_ (r_callB k_len B.len_ (r_cons (r_ix (r_var 0) r_int) r_nil))) (fun _ _ _ _ _ => (r_gname 2 sc_ahead.nd)) (fun _ _ _ _ _ => (r_ts1 (r_tcmp (o_eq (hu65 hr0)) (r_ix (r_ix (r_ix (r_var 0) r_int) (r_var 2)) r_int) (r_var 1)))) (fun _ _ _ _ _ => (r_var 2))))))
theorem has_ahead (B : Bi mg)  (l : Lk K mg "ahead" (top 15) ["tree", "node"]) : HasL P w K mg base "ahead" ["tree", "node"] 1 m_ahead := by
  obtain ⟨f, fd, g, F, b⟩ := l
  exact has_of g F b sc_ahead b_ahead fun cdv A outer s H E hr => ok_ahead B hr
/-! ### is_last -/
abbrev N_is_last : List Str := ["tree", "node"]
theorem sc_is_last : FnScope N_is_last ["tree", "node"] (defScope (top 16)) := ⟨rfl, rfl, rfl, by decide +kernel, rfl, by decide +kernel, by decide +kernel⟩
theorem ok_is_last (B : Bi mg) (h_ahead : HasL P w K mg base "ahead" ["tree", "node"] 1 m_ahead) {f : Addr} {cdv : Value} {A : Around} {outer : List Env} {s : Shared} {H : Hp} {E : XK} (hr0 : Room 1 (A.deeper (envOfC "is_last" (defScope (top 16)) s.heap.objs.size f cdv))) :
    OkSs (cxOf CXL P w K mg base N_is_last "is_last" (defScope (top 16)) f cdv A outer s H E) E (defBody (top 16)) b_is_last :=
  (r_ss_one (r_ret (r_gc (r_cmp (o_eq (hu65 hr0)) (r_gc (r_callB k_len B.len_ (r_cons (r_gc (r_call h_ahead (hr0.mono (by decide)) pass_0 (r_cons (r_var 0) (r_cons (r_var 1) r_nil)))) r_nil))) r_int))))
theorem has_is_last (B : Bi mg) (h_ahead : HasL P w K mg base "ahead" ["tree", "node"] 1 m_ahead) (l : Lk K mg "is_last" (top 16) ["tree", "node"]) : HasL P w K mg base "is_last" ["tree", "node"] 2 m_is_last := by
  obtain ⟨f, fd, g, F, b⟩ := l
  exact has_of g F b sc_is_last b_is_last fun cdv A outer s H E hr => ok_is_last B h_ahead hr
/-! ### are_chances -/
abbrev N_are_chances : List Str := ["tree", "value", "node", "one"]
theorem sc_are_chances : FnScope N_are_chances ["tree", "value"] (defScope (top 19)) := ⟨rfl, rfl, rfl, by decide +kernel, rfl, by decide +kernel, by decide +kernel⟩
noncomputable def b_are_chances : FS :=
  (fSeq (fIf (fOrT (fNotT (fTru (fIsi "tuple" (fVar 1)))) (fTst (fOp dNe (fCB cLen (fCons (fVar 1) fNil)) (fCB cLen (fCons (fOp dIx (fVar 0) (fC (.int 2))) fNil))))) (fRet (fC (.bl false))) fNx) (fSeq (fFor (iRg1 (fCB cLen (fCons (fVar 1) fNil))) (gNm 2) (fSeq (fIf (fOrT (fNotT (fTru (fGc (fCall 2 m_are_parts (fCons (fOp dIx (fVar 1) (fVar 2)) (fCons (fGc (fCB cLen (fCons (fGc (fCall 2 m_ahead (fCons (fVar 0) (fCons (fVar 2) fNil)))) fNil))) fNil)))))) (fTru (fGc (fCB cAny (fCons (fGc (fLc [3] (iSeq (fOp dIx (fVar 1) (fVar 2))) (gNm 3) fYes (fOp dLe (fOp dIx (fVar 3) (fC (.int 0))) (fC (.int 0))))) fNil))))) (fRet (fC (.bl false))) fNx) (fIf (fAndT (fNotT (fTru (fGc (fCall 2 m_is_last (fCons (fVar 0) (fCons (fVar 2) fNil)))))) (fGcT (fTst (fOp dNe (fGc (fCall 1 m_total (fCons (fOp dIx (fVar 1) (fVar 2)) fNil))) (fC c_ONE))))) (fRet (fC (.bl false))) fNx))) (fRet (fC (.bl true)))))
noncomputable def m_are_chances : DCl := mOf 4 b_are_chances
theorem ok_are_chances (B : Bi mg) (h_are_parts : HasL P w K mg base "are_parts" ["value", "many"] 3 m_are_parts) (h_ahead : HasL P w K mg base "ahead" ["tree", "node"] 1 m_ahead) (h_is_last : HasL P w K mg base "is_last" ["tree", "node"] 2 m_is_last) (h_total : HasL P w K mg base "total" ["row"] 4 m_total) (k_ONE : Cst K mg "ONE" c_ONE) {f : Addr} {cdv : Value} {A : Around} {outer : List Env} {s : Shared} {H : Hp} {E : XK} (hr0 : Room 4 (A.deeper (envOfC "are_chances" (defScope (top 19)) s.heap.objs.size f cdv))) :
    OkSs (cxOf CXL P w K mg base N_are_chances "are_chances" (defScope (top 19)) f cdv A outer s H E) E (defBody (top 19)) b_are_chances :=
  (r_ss (r_if (r_w (r_wor (r_tnot (r_tru (r_isi (T := "tuple") B.isinstance_ B.tuple_ (r_var 1)))) (r_wor1 (r_tcmp (o_ne (hu65 hr0)) (r_callB k_len B.len_ (r_cons (r_var 1) r_nil)) (r_callB k_len B.len_ (r_cons (r_ix (r_var 0) r_int) r_nil)))))) (r_ss_one (r_ret r_bl)) r_ss_nil) (r_ss (r_for own_any rfl (r_irg1 B.range_ (r_callB k_len B.len_ (r_cons (r_var 1) r_nil))) (r_gname 2 sc_are_chances.nd) (r_ss (r_if (r_w (r_wor (r_tnot (r_tru (r_gc (r_call h_are_parts (hr0.mono (by decide)) pass_0 (r_cons (r_ix (r_var 1) (r_var 2)) (r_cons (r_gc (r_callB k_len B.len_ (r_cons (r_gc (r_call h_ahead (hr0.mono (by decide)) pass_0 (r_cons (r_var 0) (r_cons (r_var 2) r_nil)))) r_nil))) r_nil)))))) (r_wor1 (r_tru (r_gc (r_callB (k_any rfl) B.any_ (r_cons (r_gc (r_lc [("one", 3)] rfl sc_are_chances.nd (r_iseq (r_ix (r_var 1) (r_var 2))) (fun _ _ _ _ _ => (r_gname 3 sc_are_chances.nd)) (fun _ _ _ _ _ => r_ts0) (fun _ _ _ _ _ => (r_cmp o_le (r_ix (r_var 3) r_int) r_int)))) r_nil))))))) (r_ss_one (r_ret r_bl)) r_ss_nil) (r_ss_one (r_if (r_w (r_wand (r_tnot (r_tru (r_gc (r_call h_is_last (hr0.mono (by decide)) pass_0 (r_cons (r_var 0) (r_cons (r_var 2) r_nil)))))) (r_wand1 (r_gct (r_tcmp (o_ne (hu65 hr0)) (r_gc (r_call h_total (hr0.mono (by decide)) pass_0 (r_cons (r_ix (r_var 1) (r_var 2)) r_nil))) (r_cst k_ONE)))))) (r_ss_one (r_ret r_bl)) r_ss_nil)))) (r_ss_one (r_ret r_bl))))
theorem has_are_chances (B : Bi mg) (h_are_parts : HasL P w K mg base "are_parts" ["value", "many"] 3 m_are_parts) (h_ahead : HasL P w K mg base "ahead" ["tree", "node"] 1 m_ahead) (h_is_last : HasL P w K mg base "is_last" ["tree", "node"] 2 m_is_last) (h_total : HasL P w K mg base "total" ["row"] 4 m_total) (k_ONE : Cst K mg "ONE" c_ONE) (l : Lk K mg "are_chances" (top 19) ["tree", "value"]) : HasL P w K mg base "are_chances" ["tree", "value"] 5 m_are_chances := by
  obtain ⟨f, fd, g, F, b⟩ := l
  exact has_of g F b sc_are_chances b_are_chances fun cdv A outer s H E hr => ok_are_chances B h_are_parts h_ahead h_is_last h_total k_ONE hr
/-! ### even -/
abbrev N_even : List Str := ["tree", "k"]
theorem sc_even : FnScope N_even ["tree"] (defScope (top 20)) := ⟨rfl, rfl, rfl, by decide +kernel, rfl, by decide +kernel, by decide +kernel⟩
def b_even : FS :=
  (fRet (fGc (fCB cTup (fCons (fGc (fLc [1] (iRg1 (fCB cLen (fCons (fOp dIx (fVar 0) (fC (.int 2))) fNil))) (gNm 1) fYes (fGc (fOp dMul (fTup (fCons (fTup (fCons (fC (.int 1)) (fCons (fGc (fCB cLen (fCons (fGc (fCall 2 m_ahead (fCons (fVar 0) (fCons (fVar 1) fNil)))) fNil))) fNil))) fNil)) (fGc (fCB cLen (fCons (fGc (fCall 2 m_ahead (fCons (fVar 0) (fCons (fVar 1) fNil)))) fNil))))))) fNil))))
def m_even : DCl := mOf 2 b_even
theorem ok_even (B : Bi mg) (h_ahead : HasL P w K mg base "ahead" ["tree", "node"] 1 m_ahead) {f : Addr} {cdv : Value} {A : Around} {outer : List Env} {s : Shared} {H : Hp} {E : XK} (hr0 : Room 1 (A.deeper (envOfC "even" (defScope (top 20)) s.heap.objs.size f cdv))) :
    OkSs (cxOf CXL P w K mg base N_even "even" (defScope (top 20)) f cdv A outer s H E) E (defBody (top 20)) b_even :=
  (r_ss_one (r_ret (r_gc (r_callTy k_tuple B.tuple_ (r_cons (r_gc (r_lc [("k", 1)] rfl sc_even.nd (r_irg1 B.range_ (r_callB k_len B.len_ (r_cons (r_ix (r_var 0) r_int) r_nil))) (fun _ _ _ _ _ => (r_gname 1 sc_even.nd)) (fun _ _ _ _ _ => r_ts0) (fun _ _ _ _ _ => (r_gc (r_op o_mul (r_tup (r_cons (r_tup (r_cons r_int (r_cons (r_gc (r_callB k_len B.len_ (r_cons (r_gc (r_call h_ahead (hr0.mono (by decide)) pass_0 (r_cons (r_var 0) (r_cons (r_var 1) r_nil)))) r_nil))) r_nil))) r_nil)) (r_gc (r_callB k_len B.len_ (r_cons (r_gc (r_call h_ahead (hr0.mono (by decide)) pass_0 (r_cons (r_var 0) (r_cons (r_var 1) r_nil)))) r_nil)))))))) r_nil)))))
theorem has_even (B : Bi mg) (h_ahead : HasL P w K mg base "ahead" ["tree", "node"] 1 m_ahead) (l : Lk K mg "even" (top 20) ["tree"]) : HasL P w K mg base "even" ["tree"] 2 m_even := by
  obtain ⟨f, fd, g, F, b⟩ := l
  exact has_of g F b sc_even b_even fun cdv A outer s H E hr => ok_even B h_ahead hr
/-! ### chance -/
abbrev N_chance : List Str := ["tree", "chances", "node", "found", "behind"]
theorem sc_chance : FnScope N_chance ["tree", "chances", "node"] (defScope (top 21)) := ⟨rfl, rfl, rfl, by decide +kernel, rfl, by decide +kernel, by decide +kernel⟩
noncomputable def b_chance : FS :=
  (fSeq (fSet 3 (fC c_ONE)) (fSeq (fWhile (fTst (fOp dNe (fVar 2) (fC (.int 0)))) (fSeq (fSet 4 (fOp dIx (fOp dIx (fOp dIx (fVar 0) (fC (.int 2))) (fVar 2)) (fC (.int 0)))) (fSeq (fSet 3 (fGc (fCall 2 m_times (fCons (fVar 3) (fCons (fOp dIx (fOp dIx (fVar 1) (fVar 4)) (fGc (fMt mIndex (fGc (fCall 2 m_ahead (fCons (fVar 0) (fCons (fVar 4) fNil)))) (fCons (fVar 2) fNil)))) fNil))))) (fSet 2 (fVar 4))))) (fRet (fVar 3))))
noncomputable def m_chance : DCl := mOf 5 b_chance
theorem ok_chance (B : Bi mg) (h_times : HasL P w K mg base "times" ["one", "other"] 3 m_times) (h_ahead : HasL P w K mg base "ahead" ["tree", "node"] 1 m_ahead) (k_ONE : Cst K mg "ONE" c_ONE) {f : Addr} {cdv : Value} {A : Around} {outer : List Env} {s : Shared} {H : Hp} {E : XK} (hr0 : Room 3 (A.deeper (envOfC "chance" (defScope (top 21)) s.heap.objs.size f cdv))) :
    OkSs (cxOf CXL P w K mg base N_chance "chance" (defScope (top 21)) f cdv A outer s H E) E (defBody (top 21)) b_chance :=
  (r_ss (r_set 3 sc_chance.nd (r_cst k_ONE)) (r_ss (r_while own_any (r_tcmp (o_ne (hu65 hr0)) (r_var 2) r_int) (r_ss (r_set 4 sc_chance.nd (r_ix (r_ix (r_ix (r_var 0) r_int) (r_var 2)) r_int)) (r_ss (r_set 3 sc_chance.nd (r_gc (r_call h_times (hr0.mono (by decide)) pass_0 (r_cons (r_var 3) (r_cons (r_ix (r_ix (r_var 1) (r_var 4)) (r_gc (r_meth PySem.F.slot_list_index PySem.F.type_list_index (m_index (hu65 hr0)) (r_gc (r_call h_ahead (hr0.mono (by decide)) pass_0 (r_cons (r_var 0) (r_cons (r_var 4) r_nil)))) (r_cons (r_var 2) r_nil)))) r_nil))))) (r_ss_one (r_set 2 sc_chance.nd (r_var 4)))))) (r_ss_one (r_ret (r_var 3)))))
theorem has_chance (B : Bi mg) (h_times : HasL P w K mg base "times" ["one", "other"] 3 m_times) (h_ahead : HasL P w K mg base "ahead" ["tree", "node"] 1 m_ahead) (k_ONE : Cst K mg "ONE" c_ONE) (l : Lk K mg "chance" (top 21) ["tree", "chances", "node"]) : HasL P w K mg base "chance" ["tree", "chances", "node"] 4 m_chance := by
  obtain ⟨f, fd, g, F, b⟩ := l
  exact has_of g F b sc_chance b_chance fun cdv A outer s H E hr => ok_chance B h_times h_ahead k_ONE hr
/-! ### mean -/
abbrev N_mean : List Str := ["tree", "chances", "row", "k"]
theorem sc_mean : FnScope N_mean ["tree", "chances", "row"] (defScope (top 22)) := ⟨rfl, rfl, rfl, by decide +kernel, rfl, by decide +kernel, by decide +kernel⟩
noncomputable def b_mean : FS :=
  (fRet (fGc (fCall 1 m_total (fCons (fGc (fLc [3] (iRg1 (fCB cLen (fCons (fVar 2) fNil))) (gNm 3) fYes (fGc (fCall 2 m_times (fCons (fOp dIx (fVar 2) (fVar 3)) (fCons (fGc (fCall 3 m_chance (fCons (fVar 0) (fCons (fVar 1) (fCons (fVar 3) fNil))))) fNil)))))) fNil))))
noncomputable def m_mean : DCl := mOf 4 b_mean
theorem ok_mean (B : Bi mg) (h_total : HasL P w K mg base "total" ["row"] 4 m_total) (h_times : HasL P w K mg base "times" ["one", "other"] 3 m_times) (h_chance : HasL P w K mg base "chance" ["tree", "chances", "node"] 4 m_chance) {f : Addr} {cdv : Value} {A : Around} {outer : List Env} {s : Shared} {H : Hp} {E : XK} (hr0 : Room 4 (A.deeper (envOfC "mean" (defScope (top 22)) s.heap.objs.size f cdv))) :
    OkSs (cxOf CXL P w K mg base N_mean "mean" (defScope (top 22)) f cdv A outer s H E) E (defBody (top 22)) b_mean :=
  (r_ss_one (r_ret (r_gc (r_call h_total (hr0.mono (by decide)) pass_0 (r_cons (r_gc (r_lc [("k", 3)] rfl sc_mean.nd (r_irg1 B.range_ (r_callB k_len B.len_ (r_cons (r_var 2) r_nil))) (fun _ _ _ _ _ => (r_gname 3 sc_mean.nd)) (fun _ _ _ _ _ => r_ts0) (fun _ _ _ _ _ => (r_gc (r_call h_times (hr0.mono (by decide)) pass_0 (r_cons (r_ix (r_var 2) (r_var 3)) (r_cons (r_gc (r_call h_chance (hr0.mono (by decide)) pass_0 (r_cons (r_var 0) (r_cons (r_var 1) (r_cons (r_var 3) r_nil))))) r_nil))))))) r_nil)))))
theorem has_mean (B : Bi mg) (h_total : HasL P w K mg base "total" ["row"] 4 m_total) (h_times : HasL P w K mg base "times" ["one", "other"] 3 m_times) (h_chance : HasL P w K mg base "chance" ["tree", "chances", "node"] 4 m_chance) (l : Lk K mg "mean" (top 22) ["tree", "chances", "row"]) : HasL P w K mg base "mean" ["tree", "chances", "row"] 5 m_mean := by
  obtain ⟨f, fd, g, F, b⟩ := l
  exact has_of g F b sc_mean b_mean fun cdv A outer s H E hr => ok_mean B h_total h_times h_chance hr
/-! ### sorted_places -/
abbrev N_sorted_places : List Str := ["values", "rest", "found", "best", "k"]
theorem sc_sorted_places : FnScope N_sorted_places ["values"] (defScope (top 24)) := ⟨rfl, rfl, rfl, by decide +kernel, rfl, by decide +kernel, by decide +kernel⟩
noncomputable def b_sorted_places : FS :=
  (fSeq (fPar 1 2 (fCons (fGc (fLR1 (fCB cLen (fCons (fVar 0) fNil)))) (fCons (fLst fNil) fNil))) (fSeq (fWhile (fGcT (fTst (fOp dNe (fVar 1) (fLst fNil)))) (fSeq (fSet 3 (fOp dIx (fVar 1) (fC (.int 0)))) (fSeq (fFor (iSeq (fVar 1)) (gNm 4) (fSet 3 (fIfE (fTru (fGc (fCall 2 m_is_less (fCons (fOp dIx (fVar 0) (fVar 4)) (fCons (fOp dIx (fVar 0) (fVar 3)) fNil))))) (fVar 4) (fVar 3)))) (fSeq (fExp (fMt mAppend (fVar 2) (fCons (fVar 3) fNil))) (fExp (fMt mRemove (fVar 1) (fCons (fVar 3) fNil))))))) (fRet (fVar 2))))
noncomputable def m_sorted_places : DCl := mOf 5 b_sorted_places
theorem ok_sorted_places (B : Bi mg) (h_is_less : HasL P w K mg base "is_less" ["one", "other"] 1 m_is_less) {f : Addr} {cdv : Value} {A : Around} {outer : List Env} {s : Shared} {H : Hp} {E : XK} (hr0 : Room 1 (A.deeper (envOfC "sorted_places" (defScope (top 24)) s.heap.objs.size f cdv))) :
    OkSs (cxOf CXL P w K mg base N_sorted_places "sorted_places" (defScope (top 24)) f cdv A outer s H E) E (defBody (top 24)) b_sorted_places :=
  (r_ss (r_par 1 2 rfl sc_sorted_places.nd (r_cons (r_gc (r_listRg1 rfl B.list_ B.range_ (r_callB k_len B.len_ (r_cons (r_var 0) r_nil)))) (r_cons (r_lst r_nil) r_nil))) (r_ss (r_while own_any (r_gct (r_tcmp (o_ne (hu65 hr0)) (r_var 1) (r_lst r_nil))) (r_ss (r_set 3 sc_sorted_places.nd (r_ix (r_var 1) r_int)) (r_ss (r_for own_any rfl (r_iseq (r_var 1)) (r_gname 4 sc_sorted_places.nd) (r_ss_one (r_set 3 sc_sorted_places.nd (r_ifE (r_tru (r_gc (r_call h_is_less (hr0.mono (by decide)) pass_0 (r_cons (r_ix (r_var 0) (r_var 4)) (r_cons (r_ix (r_var 0) (r_var 3)) r_nil))))) (r_var 4) (r_var 3))))) (r_ss (r_expr (r_meth PySem.F.slot_list_append PySem.F.type_list_append m_append (r_var 2) (r_cons (r_var 3) r_nil))) (r_ss_one (r_expr (r_meth PySem.F.slot_list_remove PySem.F.type_list_remove m_remove (r_var 1) (r_cons (r_var 3) r_nil)))))))) (r_ss_one (r_ret (r_var 2)))))
theorem has_sorted_places (B : Bi mg) (h_is_less : HasL P w K mg base "is_less" ["one", "other"] 1 m_is_less) (l : Lk K mg "sorted_places" (top 24) ["values"]) : HasL P w K mg base "sorted_places" ["values"] 2 m_sorted_places := by
  obtain ⟨f, fd, g, F, b⟩ := l
  exact has_of g F b sc_sorted_places b_sorted_places fun cdv A outer s H E hr => ok_sorted_places B h_is_less hr
/-! ### worst -/
abbrev N_worst : List Str := ["values", "chances", "share", "left", "found", "k", "taken"]
theorem sc_worst : FnScope N_worst ["values", "chances", "share"] (defScope (top 23)) := ⟨rfl, rfl, rfl, by decide +kernel, rfl, by decide +kernel, by decide +kernel⟩
noncomputable def b_worst : FS :=
  (fSeq (fPar 3 4 (fCons (fVar 2) (fCons (fTup (fCons (fC (.int 0)) (fCons (fC (.int 1)) fNil))) fNil))) (fSeq (fFor (iSeq (fGc (fCall 1 m_sorted_places (fCons (fVar 0) fNil)))) (gNm 5) (fSeq (fSet 6 (fGc (fCall 1 m_least (fCons (fLst (fCons (fVar 3) (fCons (fOp dIx (fVar 1) (fVar 5)) fNil))) fNil)))) (fSeq (fSet 4 (fGc (fCall 2 m_plus (fCons (fVar 4) (fCons (fGc (fCall 2 m_times (fCons (fVar 6) (fCons (fOp dIx (fVar 0) (fVar 5)) fNil)))) fNil))))) (fSet 3 (fGc (fCall 2 m_minus (fCons (fVar 3) (fCons (fVar 6) fNil)))))))) (fRet (fGc (fCall 2 m_over (fCons (fVar 4) (fCons (fVar 2) fNil)))))))
noncomputable def m_worst : DCl := mOf 7 b_worst
theorem ok_worst (B : Bi mg) (h_sorted_places : HasL P w K mg base "sorted_places" ["values"] 2 m_sorted_places) (h_least : HasL P w K mg base "least" ["row"] 2 m_least) (h_plus : HasL P w K mg base "plus" ["one", "other"] 3 m_plus) (h_times : HasL P w K mg base "times" ["one", "other"] 3 m_times) (h_minus : HasL P w K mg base "minus" ["one", "other"] 3 m_minus) (h_over : HasL P w K mg base "over" ["one", "other"] 3 m_over) {f : Addr} {cdv : Value} {A : Around} {outer : List Env} {s : Shared} {H : Hp} {E : XK} (hr0 : Room 3 (A.deeper (envOfC "worst" (defScope (top 23)) s.heap.objs.size f cdv))) :
    OkSs (cxOf CXL P w K mg base N_worst "worst" (defScope (top 23)) f cdv A outer s H E) E (defBody (top 23)) b_worst :=
  (r_ss (r_par 3 4 rfl sc_worst.nd (r_cons (r_var 2) (r_cons (r_tup (r_cons r_int (r_cons r_int r_nil))) r_nil))) (r_ss (r_for own_any rfl (r_iseq (r_gc (r_call h_sorted_places (hr0.mono (by decide)) pass_0 (r_cons (r_var 0) r_nil)))) (r_gname 5 sc_worst.nd) (r_ss (r_set 6 sc_worst.nd (r_gc (r_call h_least (hr0.mono (by decide)) pass_0 (r_cons (r_lst (r_cons (r_var 3) (r_cons (r_ix (r_var 1) (r_var 5)) r_nil))) r_nil)))) (r_ss (r_set 4 sc_worst.nd (r_gc (r_call h_plus (hr0.mono (by decide)) pass_0 (r_cons (r_var 4) (r_cons (r_gc (r_call h_times (hr0.mono (by decide)) pass_0 (r_cons (r_var 6) (r_cons (r_ix (r_var 0) (r_var 5)) r_nil)))) r_nil))))) (r_ss_one (r_set 3 sc_worst.nd (r_gc (r_call h_minus (hr0.mono (by decide)) pass_0 (r_cons (r_var 3) (r_cons (r_var 6) r_nil))))))))) (r_ss_one (r_ret (r_gc (r_call h_over (hr0.mono (by decide)) pass_0 (r_cons (r_var 4) (r_cons (r_var 2) r_nil))))))))
theorem has_worst (B : Bi mg) (h_sorted_places : HasL P w K mg base "sorted_places" ["values"] 2 m_sorted_places) (h_least : HasL P w K mg base "least" ["row"] 2 m_least) (h_plus : HasL P w K mg base "plus" ["one", "other"] 3 m_plus) (h_times : HasL P w K mg base "times" ["one", "other"] 3 m_times) (h_minus : HasL P w K mg base "minus" ["one", "other"] 3 m_minus) (h_over : HasL P w K mg base "over" ["one", "other"] 3 m_over) (l : Lk K mg "worst" (top 23) ["values", "chances", "share"]) : HasL P w K mg base "worst" ["values", "chances", "share"] 4 m_worst := by
  obtain ⟨f, fd, g, F, b⟩ := l
  exact has_of g F b sc_worst b_worst fun cdv A outer s H E hr => ok_worst B h_sorted_places h_least h_plus h_times h_minus h_over hr
/-! ### worst_weights -/
abbrev N_worst_weights : List Str := ["values", "chances", "share", "left", "found", "k", "taken"]
theorem sc_worst_weights : FnScope N_worst_weights ["values", "chances", "share"] (defScope (top 25)) := ⟨rfl, rfl, rfl, by decide +kernel, rfl, by decide +kernel, by decide +kernel⟩
noncomputable def b_worst_weights : FS :=
  (fSeq (fPar 3 4 (fCons (fVar 2) (fCons (fGc (fOp dMul (fLst (fCons (fTup (fCons (fC (.int 0)) (fCons (fC (.int 1)) fNil))) fNil)) (fCB cLen (fCons (fVar 0) fNil)))) fNil))) (fSeq (fFor (iSeq (fGc (fCall 1 m_sorted_places (fCons (fVar 0) fNil)))) (gNm 5) (fSeq (fSet 6 (fGc (fCall 1 m_least (fCons (fLst (fCons (fVar 3) (fCons (fOp dIx (fVar 1) (fVar 5)) fNil))) fNil)))) (fSeq (fAsg (fGc (fCall 2 m_over (fCons (fVar 6) (fCons (fVar 2) fNil)))) (gSb (fVar 4) (fVar 5))) (fSet 3 (fGc (fCall 2 m_minus (fCons (fVar 3) (fCons (fVar 6) fNil)))))))) (fRet (fCB cTup (fCons (fVar 4) fNil)))))
noncomputable def m_worst_weights : DCl := mOf 7 b_worst_weights
theorem ok_worst_weights (B : Bi mg) (h_sorted_places : HasL P w K mg base "sorted_places" ["values"] 2 m_sorted_places) (h_least : HasL P w K mg base "least" ["row"] 2 m_least) (h_over : HasL P w K mg base "over" ["one", "other"] 3 m_over) (h_minus : HasL P w K mg base "minus" ["one", "other"] 3 m_minus) {f : Addr} {cdv : Value} {A : Around} {outer : List Env} {s : Shared} {H : Hp} {E : XK} (hr0 : Room 3 (A.deeper (envOfC "worst_weights" (defScope (top 25)) s.heap.objs.size f cdv))) :
    OkSs (cxOf CXL P w K mg base N_worst_weights "worst_weights" (defScope (top 25)) f cdv A outer s H E) E (defBody (top 25)) b_worst_weights :=
  (r_ss (r_par 3 4 rfl sc_worst_weights.nd (r_cons (r_var 2) (r_cons (r_gc (r_op o_mul (r_lst (r_cons (r_tup (r_cons r_int (r_cons r_int r_nil))) r_nil)) (r_callB k_len B.len_ (r_cons (r_var 0) r_nil)))) r_nil))) (r_ss (r_for own_any rfl (r_iseq (r_gc (r_call h_sorted_places (hr0.mono (by decide)) pass_0 (r_cons (r_var 0) r_nil)))) (r_gname 5 sc_worst_weights.nd) (r_ss (r_set 6 sc_worst_weights.nd (r_gc (r_call h_least (hr0.mono (by decide)) pass_0 (r_cons (r_lst (r_cons (r_var 3) (r_cons (r_ix (r_var 1) (r_var 5)) r_nil))) r_nil)))) (r_ss (r_asg (r_gc (r_call h_over (hr0.mono (by decide)) pass_0 (r_cons (r_var 6) (r_cons (r_var 2) r_nil)))) (r_gsub (r_var 4) (r_var 5))) (r_ss_one (r_set 3 sc_worst_weights.nd (r_gc (r_call h_minus (hr0.mono (by decide)) pass_0 (r_cons (r_var 3) (r_cons (r_var 6) r_nil))))))))) (r_ss_one (r_ret (r_callTy k_tuple B.tuple_ (r_cons (r_var 4) r_nil))))))
theorem has_worst_weights (B : Bi mg) (h_sorted_places : HasL P w K mg base "sorted_places" ["values"] 2 m_sorted_places) (h_least : HasL P w K mg base "least" ["row"] 2 m_least) (h_over : HasL P w K mg base "over" ["one", "other"] 3 m_over) (h_minus : HasL P w K mg base "minus" ["one", "other"] 3 m_minus) (l : Lk K mg "worst_weights" (top 25) ["values", "chances", "share"]) : HasL P w K mg base "worst_weights" ["values", "chances", "share"] 4 m_worst_weights := by
  obtain ⟨f, fd, g, F, b⟩ := l
  exact has_of g F b sc_worst_weights b_worst_weights fun cdv A outer s H E hr => ok_worst_weights B h_sorted_places h_least h_over h_minus hr
/-! ### accepts_weights -/
abbrev N_accepts_weights : List Str := ["values", "chances", "share", "told", "value", "one", "k"]
theorem sc_accepts_weights : FnScope N_accepts_weights ["values", "chances", "share", "told", "value"] (defScope (top 26)) := ⟨rfl, rfl, rfl, by decide +kernel, rfl, by decide +kernel, by decide +kernel⟩
noncomputable def b_accepts_weights : FS :=
  (fSeq (fIf (fOrT (fNotT (fTru (fGc (fCall 2 m_are_parts (fCons (fVar 4) (fCons (fCB cLen (fCons (fVar 0) fNil)) fNil)))))) (fOrT (fGcT (fTst (fOp dNe (fGc (fCall 1 m_total (fCons (fVar 4) fNil))) (fC c_ONE)))) (fTru (fGc (fCB cAny (fCons (fGc (fLc [5] (iSeq (fVar 4)) (gNm 5) fYes (fOp dLt (fOp dIx (fVar 5) (fC (.int 0))) (fC (.int 0))))) fNil)))))) (fRet (fC (.bl false))) fNx) (fSeq (fIf (fTru (fGc (fCB cAny (fCons (fGc (fLc [6] (iRg1 (fCB cLen (fCons (fVar 4) fNil))) (gNm 6) fYes (fGc (fCall 2 m_is_less (fCons (fGc (fCall 2 m_over (fCons (fOp dIx (fVar 1) (fVar 6)) (fCons (fVar 2) fNil)))) (fCons (fOp dIx (fVar 4) (fVar 6)) fNil)))))) fNil)))) (fRet (fC (.bl false))) fNx) (fRet (fNotV (fGc (fCall 2 m_is_less (fCons (fVar 3) (fCons (fGc (fCall 2 m_dot (fCons (fVar 4) (fCons (fVar 0) fNil)))) fNil))))))))
noncomputable def m_accepts_weights : DCl := mOf 7 b_accepts_weights
theorem ok_accepts_weights (B : Bi mg) (h_are_parts : HasL P w K mg base "are_parts" ["value", "many"] 3 m_are_parts) (h_total : HasL P w K mg base "total" ["row"] 4 m_total) (h_is_less : HasL P w K mg base "is_less" ["one", "other"] 1 m_is_less) (h_over : HasL P w K mg base "over" ["one", "other"] 3 m_over) (h_dot : HasL P w K mg base "dot" ["one", "other"] 5 m_dot) (k_ONE : Cst K mg "ONE" c_ONE) {f : Addr} {cdv : Value} {A : Around} {outer : List Env} {s : Shared} {H : Hp} {E : XK} (hr0 : Room 5 (A.deeper (envOfC "accepts_weights" (defScope (top 26)) s.heap.objs.size f cdv))) :
    OkSs (cxOf CXL P w K mg base N_accepts_weights "accepts_weights" (defScope (top 26)) f cdv A outer s H E) E (defBody (top 26)) b_accepts_weights :=
  (r_ss (r_if (r_w (r_wor (r_tnot (r_tru (r_gc (r_call h_are_parts (hr0.mono (by decide)) pass_0 (r_cons (r_var 4) (r_cons (r_callB k_len B.len_ (r_cons (r_var 0) r_nil)) r_nil)))))) (r_wor (r_gct (r_tcmp (o_ne (hu65 hr0)) (r_gc (r_call h_total (hr0.mono (by decide)) pass_0 (r_cons (r_var 4) r_nil))) (r_cst k_ONE))) (r_wor1 (r_tru (r_gc (r_callB (k_any rfl) B.any_ (r_cons (r_gc (r_lc [("one", 5)] rfl sc_accepts_weights.nd (r_iseq (r_var 4)) (fun _ _ _ _ _ => (r_gname 5 sc_accepts_weights.nd)) (fun _ _ _ _ _ => r_ts0) (fun _ _ _ _ _ => (r_cmp o_lt (r_ix (r_var 5) r_int) r_int)))) r_nil)))))))) (r_ss_one (r_ret r_bl)) r_ss_nil) (r_ss (r_if (r_tru (r_gc (r_callB (k_any rfl) B.any_ (r_cons (r_gc (r_lc [("k", 6)] rfl sc_accepts_weights.nd (r_irg1 B.range_ (r_callB k_len B.len_ (r_cons (r_var 4) r_nil))) (fun _ _ _ _ _ => (r_gname 6 sc_accepts_weights.nd)) (fun _ _ _ _ _ => r_ts0) (fun _ _ _ _ _ => (r_gc (r_call h_is_less (hr0.mono (by decide)) pass_0 (r_cons (r_gc (r_call h_over (hr0.mono (by decide)) pass_0 (r_cons (r_ix (r_var 1) (r_var 6)) (r_cons (r_var 2) r_nil)))) (r_cons (r_ix (r_var 4) (r_var 6)) r_nil))))))) r_nil)))) (r_ss_one (r_ret r_bl)) r_ss_nil) (r_ss_one (r_ret (r_not (r_gc (r_call h_is_less (hr0.mono (by decide)) pass_0 (r_cons (r_var 3) (r_cons (r_gc (r_call h_dot (hr0.mono (by decide)) pass_0 (r_cons (r_var 4) (r_cons (r_var 0) r_nil)))) r_nil)))))))))
theorem has_accepts_weights (B : Bi mg) (h_are_parts : HasL P w K mg base "are_parts" ["value", "many"] 3 m_are_parts) (h_total : HasL P w K mg base "total" ["row"] 4 m_total) (h_is_less : HasL P w K mg base "is_less" ["one", "other"] 1 m_is_less) (h_over : HasL P w K mg base "over" ["one", "other"] 3 m_over) (h_dot : HasL P w K mg base "dot" ["one", "other"] 5 m_dot) (k_ONE : Cst K mg "ONE" c_ONE) (l : Lk K mg "accepts_weights" (top 26) ["values", "chances", "share", "told", "value"]) : HasL P w K mg base "accepts_weights" ["values", "chances", "share", "told", "value"] 6 m_accepts_weights := by
  obtain ⟨f, fd, g, F, b⟩ := l
  exact has_of g F b sc_accepts_weights b_accepts_weights fun cdv A outer s H E hr => ok_accepts_weights B h_are_parts h_total h_is_less h_over h_dot k_ONE hr
/-! ### worst_costs -/
abbrev N_worst_costs : List Str := ["tree", "chances", "share", "row", "found", "node", "dues", "k"]
theorem sc_worst_costs : FnScope N_worst_costs ["tree", "chances", "share", "row"] (defScope (top 27)) := ⟨rfl, rfl, rfl, by decide +kernel, rfl, by decide +kernel, by decide +kernel⟩
noncomputable def b_worst_costs : FS :=
  (fSeq (fSet 4 (fGc (fOp dMul (fLst (fCons (fC .non) fNil)) (fCB cLen (fCons (fOp dIx (fVar 0) (fC (.int 2))) fNil))))) (fSeq (fFor (iRgN (fOp dSub (fCB cLen (fCons (fOp dIx (fVar 0) (fC (.int 2))) fNil)) (fC (.int 1))) (fNeg (fC (.int 1))) (fNeg (fC (.int 1)))) (gNm 5) (fSeq (fAsg (fOp dIx (fVar 3) (fVar 5)) (gSb (fVar 4) (fVar 5))) (fIf (fNotT (fTru (fGc (fCall 2 m_is_last (fCons (fVar 0) (fCons (fVar 5) fNil)))))) (fSeq (fSet 6 (fGc (fLc [7] (iSeq (fGc (fCall 2 m_ahead (fCons (fVar 0) (fCons (fVar 5) fNil))))) (gNm 7) fYes (fGc (fCall 1 m_negative (fCons (fOp dIx (fVar 4) (fVar 7)) fNil)))))) (fAsg (fGc (fCall 2 m_plus (fCons (fOp dIx (fVar 3) (fVar 5)) (fCons (fGc (fCall 1 m_negative (fCons (fGc (fCall 3 m_worst (fCons (fVar 6) (fCons (fOp dIx (fVar 1) (fVar 5)) (fCons (fVar 2) fNil))))) fNil))) fNil)))) (gSb (fVar 4) (fVar 5)))) fNx))) (fRet (fVar 4))))
noncomputable def m_worst_costs : DCl := mOf 8 b_worst_costs
theorem ok_worst_costs (B : Bi mg) (h_is_last : HasL P w K mg base "is_last" ["tree", "node"] 2 m_is_last) (h_ahead : HasL P w K mg base "ahead" ["tree", "node"] 1 m_ahead) (h_negative : HasL P w K mg base "negative" ["one"] 1 m_negative) (h_plus : HasL P w K mg base "plus" ["one", "other"] 3 m_plus) (h_worst : HasL P w K mg base "worst" ["values", "chances", "share"] 4 m_worst) {f : Addr} {cdv : Value} {A : Around} {outer : List Env} {s : Shared} {H : Hp} {E : XK} (hr0 : Room 4 (A.deeper (envOfC "worst_costs" (defScope (top 27)) s.heap.objs.size f cdv))) :
    OkSs (cxOf CXL P w K mg base N_worst_costs "worst_costs" (defScope (top 27)) f cdv A outer s H E) E (defBody (top 27)) b_worst_costs :=
  (r_ss (r_set 4 sc_worst_costs.nd (r_gc (r_op o_mul (r_lst (r_cons r_non r_nil)) (r_callB k_len B.len_ (r_cons (r_ix (r_var 0) r_int) r_nil))))) (r_ss (r_for own_any rfl (r_irgn B.range_ (r_op o_sub (r_callB k_len B.len_ (r_cons (r_ix (r_var 0) r_int) r_nil)) r_int) (r_neg r_int) (r_neg r_int)) (r_gname 5 sc_worst_costs.nd) (r_ss (r_asg (r_ix (r_var 3) (r_var 5)) (r_gsub (r_var 4) (r_var 5))) (r_ss_one (r_if (r_tnot (r_tru (r_gc (r_call h_is_last (hr0.mono (by decide)) pass_0 (r_cons (r_var 0) (r_cons (r_var 5) r_nil)))))) (r_ss (r_setLc 6 [("k", 7)] rfl sc_worst_costs.nd (r_iseq (r_gc (r_call h_ahead (hr0.mono (by decide)) pass_0 (r_cons (r_var 0) (r_cons (r_var 5) r_nil))))) (fun _ _ _ _ _ => (r_gname 7 sc_worst_costs.nd)) (fun _ _ _ _ _ => r_ts0) (fun _ _ _ _ _ => (r_gc (r_call h_negative (hr0.mono (by decide)) pass_0 (r_cons (r_ix (r_var 4) (r_var 7)) r_nil))))) (r_ss_one (r_asg (r_gc (r_call h_plus (hr0.mono (by decide)) pass_0 (r_cons (r_ix (r_var 3) (r_var 5)) (r_cons (r_gc (r_call h_negative (hr0.mono (by decide)) pass_0 (r_cons (r_gc (r_call h_worst (hr0.mono (by decide)) pass_0 (r_cons (r_var 6) (r_cons (r_ix (r_var 1) (r_var 5)) (r_cons (r_var 2) r_nil))))) r_nil))) r_nil)))) (r_gsub (r_var 4) (r_var 5))))) r_ss_nil)))) (r_ss_one (r_ret (r_var 4)))))
theorem has_worst_costs (B : Bi mg) (h_is_last : HasL P w K mg base "is_last" ["tree", "node"] 2 m_is_last) (h_ahead : HasL P w K mg base "ahead" ["tree", "node"] 1 m_ahead) (h_negative : HasL P w K mg base "negative" ["one"] 1 m_negative) (h_plus : HasL P w K mg base "plus" ["one", "other"] 3 m_plus) (h_worst : HasL P w K mg base "worst" ["values", "chances", "share"] 4 m_worst) (l : Lk K mg "worst_costs" (top 27) ["tree", "chances", "share", "row"]) : HasL P w K mg base "worst_costs" ["tree", "chances", "share", "row"] 5 m_worst_costs := by
  obtain ⟨f, fd, g, F, b⟩ := l
  exact has_of g F b sc_worst_costs b_worst_costs fun cdv A outer s H E hr => ok_worst_costs B h_is_last h_ahead h_negative h_plus h_worst hr
/-! ### worst_cost -/
abbrev N_worst_cost : List Str := ["tree", "chances", "share", "row"]
theorem sc_worst_cost : FnScope N_worst_cost ["tree", "chances", "share", "row"] (defScope (top 28)) := ⟨rfl, rfl, rfl, by decide +kernel, rfl, by decide +kernel, by decide +kernel⟩
noncomputable def b_worst_cost : FS :=
  (fRet (fGc (fOp dIx (fGc (fCall 4 m_worst_costs (fCons (fVar 0) (fCons (fVar 1) (fCons (fVar 2) (fCons (fVar 3) fNil)))))) (fC (.int 0)))))
noncomputable def m_worst_cost : DCl := mOf 4 b_worst_cost
theorem ok_worst_cost (B : Bi mg) (h_worst_costs : HasL P w K mg base "worst_costs" ["tree", "chances", "share", "row"] 5 m_worst_costs) {f : Addr} {cdv : Value} {A : Around} {outer : List Env} {s : Shared} {H : Hp} {E : XK} (hr0 : Room 5 (A.deeper (envOfC "worst_cost" (defScope (top 28)) s.heap.objs.size f cdv))) :
    OkSs (cxOf CXL P w K mg base N_worst_cost "worst_cost" (defScope (top 28)) f cdv A outer s H E) E (defBody (top 28)) b_worst_cost :=
  (r_ss_one (r_ret (r_gc (r_ix (r_gc (r_call h_worst_costs (hr0.mono (by decide)) pass_0 (r_cons (r_var 0) (r_cons (r_var 1) (r_cons (r_var 2) (r_cons (r_var 3) r_nil)))))) r_int))))
theorem has_worst_cost (B : Bi mg) (h_worst_costs : HasL P w K mg base "worst_costs" ["tree", "chances", "share", "row"] 5 m_worst_costs) (l : Lk K mg "worst_cost" (top 28) ["tree", "chances", "share", "row"]) : HasL P w K mg base "worst_cost" ["tree", "chances", "share", "row"] 6 m_worst_cost := by
  obtain ⟨f, fd, g, F, b⟩ := l
  exact has_of g F b sc_worst_cost b_worst_cost fun cdv A outer s H E hr => ok_worst_cost B h_worst_costs hr
/-! ### greatest_from -/
abbrev N_greatest_from : List Str := ["tree", "row", "node", "told", "best", "one", "k"]
theorem sc_greatest_from : FnScope N_greatest_from ["tree", "row", "node"] (defScope (top 30)) := ⟨rfl, rfl, rfl, by decide +kernel, rfl, by decide +kernel, by decide +kernel⟩
noncomputable def b_greatest_from (m : DCl) : FS :=
  (fSeq (fSet 3 (fGc (fLc [6] (iSeq (fGc (fCall 2 m_ahead (fCons (fVar 0) (fCons (fVar 2) fNil))))) (gNm 6) fYes (fGc (fCall 3 m (fCons (fVar 0) (fCons (fVar 1) (fCons (fVar 6) fNil)))))))) (fSeq (fSet 4 (fIfE (fGcT (fTst (fOp dEq (fVar 3) (fLst fNil)))) (fTup (fCons (fC (.int 0)) (fCons (fC (.int 1)) fNil))) (fOp dIx (fVar 3) (fC (.int 0))))) (fSeq (fFor (iSeq (fVar 3)) (gNm 5) (fSet 4 (fIfE (fTru (fGc (fCall 2 m_is_less (fCons (fVar 4) (fCons (fVar 5) fNil))))) (fVar 5) (fVar 4)))) (fRet (fGc (fCall 2 m_plus (fCons (fOp dIx (fVar 1) (fVar 2)) (fCons (fVar 4) fNil))))))))
noncomputable def m_greatest_from : Nat → DCl := mRec 7 b_greatest_from
theorem ok_greatest_from (B : Bi mg) (h_ahead : HasL P w K mg base "ahead" ["tree", "node"] 1 m_ahead) (h_is_less : HasL P w K mg base "is_less" ["one", "other"] 1 m_is_less) (h_plus : HasL P w K mg base "plus" ["one", "other"] 3 m_plus) (j : Nat) (m : DCl) (hrec : HasL P w K mg base "greatest_from" ["tree", "row", "node"] (3 + j) m) {f : Addr} {cdv : Value} {A : Around} {outer : List Env} {s : Shared} {H : Hp} {E : XK} (hr0 : Room (3 + j) (A.deeper (envOfC "greatest_from" (defScope (top 30)) s.heap.objs.size f cdv))) :
    OkSs (cxOf CXL P w K mg base N_greatest_from "greatest_from" (defScope (top 30)) f cdv A outer s H E) E (defBody (top 30)) (b_greatest_from m) :=
  (r_ss (r_setLc 3 [("k", 6)] rfl sc_greatest_from.nd (r_iseq (r_gc (r_call h_ahead (hr0.mono (by omega)) pass_0 (r_cons (r_var 0) (r_cons (r_var 2) r_nil))))) (fun _ _ _ _ _ => (r_gname 6 sc_greatest_from.nd)) (fun _ _ _ _ _ => r_ts0) (fun _ _ _ _ _ => (r_gc (r_call hrec hr0 pass_0 (r_cons (r_var 0) (r_cons (r_var 1) (r_cons (r_var 6) r_nil))))))) (r_ss (r_set 4 sc_greatest_from.nd (r_ifE (r_gct (r_tcmp (o_eq (hu65 hr0)) (r_var 3) (r_lst r_nil))) (r_tup (r_cons r_int (r_cons r_int r_nil))) (r_ix (r_var 3) r_int))) (r_ss (r_for own_any rfl (r_iseq (r_var 3)) (r_gname 5 sc_greatest_from.nd) (r_ss_one (r_set 4 sc_greatest_from.nd (r_ifE (r_tru (r_gc (r_call h_is_less (hr0.mono (by omega)) pass_0 (r_cons (r_var 4) (r_cons (r_var 5) r_nil))))) (r_var 5) (r_var 4))))) (r_ss_one (r_ret (r_gc (r_call h_plus (hr0.mono (by omega)) pass_0 (r_cons (r_ix (r_var 1) (r_var 2)) (r_cons (r_var 4) r_nil)))))))))
theorem has_greatest_from (B : Bi mg) (h_ahead : HasL P w K mg base "ahead" ["tree", "node"] 1 m_ahead) (h_is_less : HasL P w K mg base "is_less" ["one", "other"] 1 m_is_less) (h_plus : HasL P w K mg base "plus" ["one", "other"] 3 m_plus) (l : Lk K mg "greatest_from" (top 30) ["tree", "row", "node"]) (d : Nat) : HasL P w K mg base "greatest_from" ["tree", "row", "node"] (3 + d) (m_greatest_from d) := by
  obtain ⟨f, fd, g, F, b⟩ := l
  have z := has_rec (CX := CXL) (P := P) (w := w) (base := base) (k := 3) g F b sc_greatest_from b_greatest_from (fun j m hm cdv A outer s H E hr => ok_greatest_from B h_ahead h_is_less h_plus j m hm hr) d
  rw [mRec_eq] at z
  exact z
/-! ### greatest_cost -/
abbrev N_greatest_cost : List Str := ["tree", "row"]
theorem sc_greatest_cost : FnScope N_greatest_cost ["tree", "row"] (defScope (top 29)) := ⟨rfl, rfl, rfl, by decide +kernel, rfl, by decide +kernel, by decide +kernel⟩
noncomputable def b_greatest_cost : FS :=
  (fRet (fGc (fCall 3 (m_greatest_from 24) (fCons (fVar 0) (fCons (fVar 1) (fCons (fC (.int 0)) fNil))))))
noncomputable def m_greatest_cost : DCl := mOf 2 b_greatest_cost
theorem ok_greatest_cost (B : Bi mg) (h_greatest_from : HasL P w K mg base "greatest_from" ["tree", "row", "node"] 28 (m_greatest_from 24)) {f : Addr} {cdv : Value} {A : Around} {outer : List Env} {s : Shared} {H : Hp} {E : XK} (hr0 : Room 28 (A.deeper (envOfC "greatest_cost" (defScope (top 29)) s.heap.objs.size f cdv))) :
    OkSs (cxOf CXL P w K mg base N_greatest_cost "greatest_cost" (defScope (top 29)) f cdv A outer s H E) E (defBody (top 29)) b_greatest_cost :=
  (r_ss_one (r_ret (r_gc (r_call h_greatest_from (hr0.mono (by decide)) pass_0 (r_cons (r_var 0) (r_cons (r_var 1) (r_cons r_int r_nil)))))))
theorem has_greatest_cost (B : Bi mg) (h_greatest_from : HasL P w K mg base "greatest_from" ["tree", "row", "node"] 28 (m_greatest_from 24)) (l : Lk K mg "greatest_cost" (top 29) ["tree", "row"]) : HasL P w K mg base "greatest_cost" ["tree", "row"] 29 m_greatest_cost := by
  obtain ⟨f, fd, g, F, b⟩ := l
  exact has_of g F b sc_greatest_cost b_greatest_cost fun cdv A outer s H E hr => ok_greatest_cost B h_greatest_from hr
/-! ### tilted -/
abbrev N_tilted : List Str := ["tree", "chances", "weights", "found", "k", "j"]
theorem sc_tilted : FnScope N_tilted ["tree", "chances", "weights"] (defScope (top 31)) := ⟨rfl, rfl, rfl, by decide +kernel, rfl, by decide +kernel, by decide +kernel⟩
noncomputable def b_tilted : FS :=
  (fSeq (fSet 3 (fLst fNil)) (fSeq (fFor (iRg1 (fCB cLen (fCons (fVar 1) fNil))) (gNm 4) (fExp (fGc (fMt mAppend (fVar 3) (fCons (fGc (fCB cTup (fCons (fGc (fLc [5] (iRg1 (fCB cLen (fCons (fOp dIx (fVar 1) (fVar 4)) fNil))) (gNm 5) fYes (fGc (fCall 2 m_over (fCons (fOp dIx (fOp dIx (fVar 2) (fVar 4)) (fVar 5)) (fCons (fOp dIx (fOp dIx (fVar 1) (fVar 4)) (fVar 5)) fNil)))))) fNil))) fNil))))) (fRet (fCB cTup (fCons (fVar 3) fNil)))))
noncomputable def m_tilted : DCl := mOf 6 b_tilted
theorem ok_tilted (B : Bi mg) (h_over : HasL P w K mg base "over" ["one", "other"] 3 m_over) {f : Addr} {cdv : Value} {A : Around} {outer : List Env} {s : Shared} {H : Hp} {E : XK} (hr0 : Room 3 (A.deeper (envOfC "tilted" (defScope (top 31)) s.heap.objs.size f cdv))) :
    OkSs (cxOf CXL P w K mg base N_tilted "tilted" (defScope (top 31)) f cdv A outer s H E) E (defBody (top 31)) b_tilted :=
  (r_ss (r_set 3 sc_tilted.nd (r_lst r_nil)) (r_ss (r_for own_any rfl (r_irg1 B.range_ (r_callB k_len B.len_ (r_cons (r_var 1) r_nil))) (r_gname 4 sc_tilted.nd) (r_ss_one (r_expr (r_gc (r_meth PySem.F.slot_list_append PySem.F.type_list_append m_append (r_var 3) (r_cons (r_gc (r_callTy k_tuple B.tuple_ (r_cons (r_gc (r_lc [("j", 5)] rfl sc_tilted.nd (r_irg1 B.range_ (r_callB k_len B.len_ (r_cons (r_ix (r_var 1) (r_var 4)) r_nil))) (fun _ _ _ _ _ => (r_gname 5 sc_tilted.nd)) (fun _ _ _ _ _ => r_ts0) (fun _ _ _ _ _ => (r_gc (r_call h_over (hr0.mono (by decide)) pass_0 (r_cons (r_ix (r_ix (r_var 2) (r_var 4)) (r_var 5)) (r_cons (r_ix (r_ix (r_var 1) (r_var 4)) (r_var 5)) r_nil))))))) r_nil))) r_nil)))))) (r_ss_one (r_ret (r_callTy k_tuple B.tuple_ (r_cons (r_var 3) r_nil))))))
theorem has_tilted (B : Bi mg) (h_over : HasL P w K mg base "over" ["one", "other"] 3 m_over) (l : Lk K mg "tilted" (top 31) ["tree", "chances", "weights"]) : HasL P w K mg base "tilted" ["tree", "chances", "weights"] 4 m_tilted := by
  obtain ⟨f, fd, g, F, b⟩ := l
  exact has_of g F b sc_tilted b_tilted fun cdv A outer s H E hr => ok_tilted B h_over hr
/-! ### share_of -/
abbrev N_share_of : List Str := ["tree", "chances", "nodes", "k"]
theorem sc_share_of : FnScope N_share_of ["tree", "chances", "nodes"] (defScope (top 32)) := ⟨rfl, rfl, rfl, by decide +kernel, rfl, by decide +kernel, by decide +kernel⟩
noncomputable def b_share_of : FS :=
  (fRet (fGc (fCall 1 m_total (fCons (fGc (fLc [3] (iSeq (fVar 2)) (gNm 3) fYes (fGc (fCall 3 m_chance (fCons (fVar 0) (fCons (fVar 1) (fCons (fVar 3) fNil))))))) fNil))))
noncomputable def m_share_of : DCl := mOf 4 b_share_of
theorem ok_share_of (B : Bi mg) (h_total : HasL P w K mg base "total" ["row"] 4 m_total) (h_chance : HasL P w K mg base "chance" ["tree", "chances", "node"] 4 m_chance) {f : Addr} {cdv : Value} {A : Around} {outer : List Env} {s : Shared} {H : Hp} {E : XK} (hr0 : Room 4 (A.deeper (envOfC "share_of" (defScope (top 32)) s.heap.objs.size f cdv))) :
    OkSs (cxOf CXL P w K mg base N_share_of "share_of" (defScope (top 32)) f cdv A outer s H E) E (defBody (top 32)) b_share_of :=
  (r_ss_one (r_ret (r_gc (r_call h_total (hr0.mono (by decide)) pass_0 (r_cons (r_gc (r_lc [("k", 3)] rfl sc_share_of.nd (r_iseq (r_var 2)) (fun _ _ _ _ _ => (r_gname 3 sc_share_of.nd)) (fun _ _ _ _ _ => r_ts0) (fun _ _ _ _ _ => (r_gc (r_call h_chance (hr0.mono (by decide)) pass_0 (r_cons (r_var 0) (r_cons (r_var 1) (r_cons (r_var 3) r_nil)))))))) r_nil)))))
theorem has_share_of (B : Bi mg) (h_total : HasL P w K mg base "total" ["row"] 4 m_total) (h_chance : HasL P w K mg base "chance" ["tree", "chances", "node"] 4 m_chance) (l : Lk K mg "share_of" (top 32) ["tree", "chances", "nodes"]) : HasL P w K mg base "share_of" ["tree", "chances", "nodes"] 5 m_share_of := by
  obtain ⟨f, fd, g, F, b⟩ := l
  exact has_of g F b sc_share_of b_share_of fun cdv A outer s H E hr => ok_share_of B h_total h_chance hr
/-! ### _law_state -/
abbrev N_Lstate : List Str := ["script", "numbers_left", "cell"]
theorem sc_Lstate : FnScope N_Lstate ["script"] (defScope (top 34)) := ⟨rfl, rfl, rfl, by decide +kernel, rfl, by decide +kernel, by decide +kernel⟩
theorem ok_Lstate (B : Bi mg)  {f : Addr} {cdv : Value} {A : Around} {outer : List Env} {s : Shared} {H : Hp} {E : XK} (hr0 : Room 0 (A.deeper (envOfC "_law_state" (defScope (top 34)) s.heap.objs.size f cdv))) :
    OkSs (cxOf CXL P w K mg base N_Lstate "_law_state" (defScope (top 34)) f cdv A outer s H E) E (defBody (top 34)) b_Lstate :=
  (r_ss (r_setLc 1 [("cell", 2)] rfl sc_Lstate.nd (r_iseq (r_slice (r_var 0) r_no (r_so r_int))) (fun _ _ _ _ _ => (r_gname 2 sc_Lstate.nd)) (fun _ _ _ _ _ => r_ts0) (fun _ _ _ _ _ => (r_callB k_abs B.abs_ (r_cons (r_var 2) r_nil)))) (r_ss (r_if (r_tcmp (o_eq (hu65 hr0)) (r_callB k_len B.len_ (r_cons (r_var 1) r_nil)) r_int) (r_ss_one (r_set 1 sc_Lstate.nd (r_lst (r_cons r_int r_nil)))) r_ss_nil) (r_ss_one (r_ret (r_lst (r_cons r_int (r_cons (r_var 1) r_nil)))))))
theorem has_Lstate (B : Bi mg)  (l : Lk K mg "_law_state" (top 34) ["script"]) : HasL P w K mg base "_law_state" ["script"] 1 m_Lstate := by
  obtain ⟨f, fd, g, F, b⟩ := l
  exact has_of g F b sc_Lstate b_Lstate fun cdv A outer s H E hr => ok_Lstate B hr
/-! ### _law_take -/
abbrev N_Ltake : List Str := ["state", "most", "numbers_left", "at", "cell", "stirred"]
theorem sc_Ltake : FnScope N_Ltake ["state", "most"] (defScope (top 35)) := ⟨rfl, rfl, rfl, by decide +kernel, rfl, by decide +kernel, by decide +kernel⟩
theorem ok_Ltake (B : Bi mg)  {f : Addr} {cdv : Value} {A : Around} {outer : List Env} {s : Shared} {H : Hp} {E : XK} (hr0 : Room 0 (A.deeper (envOfC "_law_take" (defScope (top 35)) s.heap.objs.size f cdv))) :
    OkSs (cxOf CXL P w K mg base N_Ltake "_law_take" (defScope (top 35)) f cdv A outer s H E) E (defBody (top 35)) b_Ltake :=
  (r_ss (r_if (r_tcmp o_lt (r_var 1) r_int) (r_ss_one (r_ret r_int)) r_ss_nil) (r_ss (r_set 2 sc_Ltake.nd (r_ix (r_var 0) r_int)) (r_ss (r_set 3 sc_Ltake.nd (r_op o_mod (r_callTy k_int B.int_ (r_cons (r_ix (r_var 0) r_int) r_nil)) (r_callB k_len B.len_ (r_cons (r_var 2) r_nil)))) (r_ss (r_set 4 sc_Ltake.nd (r_ix (r_var 2) (r_var 3))) (r_ss (r_if (r_tcmp o_ge (r_var 4) r_int) (r_ss (r_asg (r_op o_fdiv (r_var 4) (r_var 1)) (r_gsub (r_var 2) (r_var 3))) (r_ss_one (r_ret (r_op o_mod (r_callTy k_int B.int_ (r_cons (r_var 4) r_nil)) (r_var 1))))) r_ss_nil) (r_ss (r_asg (r_op o_add (r_ix (r_var 0) r_int) r_int) (r_gsub (r_var 0) r_int)) (r_ss (r_set 5 sc_Ltake.nd (r_op o_mod (r_callTy k_int B.int_ (r_cons (r_op o_add (r_op o_mul (r_var 4) r_int) (r_op o_mul (r_ix (r_var 0) r_int) r_int)) r_nil)) r_int)) (r_ss (r_set 5 sc_Ltake.nd (r_op o_mod (r_callTy k_int B.int_ (r_cons (r_op o_add (r_op o_mul (r_var 5) r_int) (r_op o_mul (r_ix (r_var 0) r_int) r_int)) r_nil)) r_int)) (r_ss_one (r_ret (r_op o_mod (r_callTy k_int B.int_ (r_cons (r_op o_fdiv (r_var 5) r_int) r_nil)) (r_var 1))))))))))))
theorem has_Ltake (B : Bi mg)  (l : Lk K mg "_law_take" (top 35) ["state", "most"]) : HasL P w K mg base "_law_take" ["state", "most"] 1 m_Ltake := by
  obtain ⟨f, fd, g, F, b⟩ := l
  exact has_of g F b sc_Ltake b_Ltake fun cdv A outer s H E hr => ok_Ltake B hr
/-! ### _law_pick -/
abbrev N_Lpick : List Str := ["state", "row"]
theorem sc_Lpick : FnScope N_Lpick ["state", "row"] (defScope (top 36)) := ⟨rfl, rfl, rfl, by decide +kernel, rfl, by decide +kernel, by decide +kernel⟩
theorem ok_Lpick (B : Bi mg) (h_Ltake : HasL P w K mg base "_law_take" ["state", "most"] 1 m_Ltake) {f : Addr} {cdv : Value} {A : Around} {outer : List Env} {s : Shared} {H : Hp} {E : XK} (hr0 : Room 1 (A.deeper (envOfC "_law_pick" (defScope (top 36)) s.heap.objs.size f cdv))) :
    OkSs (cxOf CXL P w K mg base N_Lpick "_law_pick" (defScope (top 36)) f cdv A outer s H E) E (defBody (top 36)) b_Lpick :=
  (r_ss_one (r_ret (r_ix (r_var 1) (r_gc (r_call h_Ltake (hr0.mono (by decide)) pass_0 (r_cons (r_var 0) (r_cons (r_callB k_len B.len_ (r_cons (r_var 1) r_nil)) r_nil)))))))
theorem has_Lpick (B : Bi mg) (h_Ltake : HasL P w K mg base "_law_take" ["state", "most"] 1 m_Ltake) (l : Lk K mg "_law_pick" (top 36) ["state", "row"]) : HasL P w K mg base "_law_pick" ["state", "row"] 2 m_Lpick := by
  obtain ⟨f, fd, g, F, b⟩ := l
  exact has_of g F b sc_Lpick b_Lpick fun cdv A outer s H E hr => ok_Lpick B h_Ltake hr
/-! ### _law_part -/
abbrev N_Lpart : List Str := ["upper", "lower", "one", "other"]
theorem sc_Lpart : FnScope N_Lpart ["upper", "lower"] (defScope (top 37)) := ⟨rfl, rfl, rfl, by decide +kernel, rfl, by decide +kernel, by decide +kernel⟩
theorem ok_Lpart (B : Bi mg)  {f : Addr} {cdv : Value} {A : Around} {outer : List Env} {s : Shared} {H : Hp} {E : XK} (hr0 : Room 0 (A.deeper (envOfC "_law_part" (defScope (top 37)) s.heap.objs.size f cdv))) :
    OkSs (cxOf CXL P w K mg base N_Lpart "_law_part" (defScope (top 37)) f cdv A outer s H E) E (defBody (top 37)) b_Lpart :=
  (r_ss (r_par 2 3 rfl sc_Lpart.nd (r_cons (r_callB k_abs B.abs_ (r_cons (r_var 0) r_nil)) (r_cons (r_callB k_abs B.abs_ (r_cons (r_var 1) r_nil)) r_nil))) (r_ss (r_while own_any (r_tcmp (o_ne (hu65 hr0)) (r_var 3) r_int) (r_ss_one (r_par 2 3 rfl sc_Lpart.nd (r_cons (r_var 3) (r_cons (r_op o_mod (r_callTy k_int B.int_ (r_cons (r_var 2) r_nil)) (r_var 3)) r_nil))))) (r_ss (r_set 2 sc_Lpart.nd (r_ifE (r_tcmp o_lt (r_var 1) r_int) (r_op o_sub r_int (r_var 2)) (r_var 2))) (r_ss_one (r_ret (r_tup (r_cons (r_op o_fdiv (r_var 0) (r_var 2)) (r_cons (r_op o_fdiv (r_var 1) (r_var 2)) r_nil))))))))
theorem has_Lpart (B : Bi mg)  (l : Lk K mg "_law_part" (top 37) ["upper", "lower"]) : HasL P w K mg base "_law_part" ["upper", "lower"] 1 m_Lpart := by
  obtain ⟨f, fd, g, F, b⟩ := l
  exact has_of g F b sc_Lpart b_Lpart fun cdv A outer s H E hr => ok_Lpart B hr
/-! ### _law_add -/
abbrev N_Ladd : List Str := ["one", "other"]
theorem sc_Ladd : FnScope N_Ladd ["one", "other"] (defScope (top 38)) := ⟨rfl, rfl, rfl, by decide +kernel, rfl, by decide +kernel, by decide +kernel⟩
theorem ok_Ladd (B : Bi mg) (h_Lpart : HasL P w K mg base "_law_part" ["upper", "lower"] 1 m_Lpart) {f : Addr} {cdv : Value} {A : Around} {outer : List Env} {s : Shared} {H : Hp} {E : XK} (hr0 : Room 1 (A.deeper (envOfC "_law_add" (defScope (top 38)) s.heap.objs.size f cdv))) :
    OkSs (cxOf CXL P w K mg base N_Ladd "_law_add" (defScope (top 38)) f cdv A outer s H E) E (defBody (top 38)) b_Ladd :=
  (r_ss_one (r_ret (r_gc (r_call h_Lpart (hr0.mono (by decide)) pass_0 (r_cons (r_op o_add (r_op o_mul (r_ix (r_var 0) r_int) (r_ix (r_var 1) r_int)) (r_op o_mul (r_ix (r_var 1) r_int) (r_ix (r_var 0) r_int))) (r_cons (r_op o_mul (r_ix (r_var 0) r_int) (r_ix (r_var 1) r_int)) r_nil))))))
theorem has_Ladd (B : Bi mg) (h_Lpart : HasL P w K mg base "_law_part" ["upper", "lower"] 1 m_Lpart) (l : Lk K mg "_law_add" (top 38) ["one", "other"]) : HasL P w K mg base "_law_add" ["one", "other"] 2 m_Ladd := by
  obtain ⟨f, fd, g, F, b⟩ := l
  exact has_of g F b sc_Ladd b_Ladd fun cdv A outer s H E hr => ok_Ladd B h_Lpart hr
/-! ### _law_mul -/
abbrev N_Lmul : List Str := ["one", "other"]
theorem sc_Lmul : FnScope N_Lmul ["one", "other"] (defScope (top 39)) := ⟨rfl, rfl, rfl, by decide +kernel, rfl, by decide +kernel, by decide +kernel⟩
theorem ok_Lmul (B : Bi mg) (h_Lpart : HasL P w K mg base "_law_part" ["upper", "lower"] 1 m_Lpart) {f : Addr} {cdv : Value} {A : Around} {outer : List Env} {s : Shared} {H : Hp} {E : XK} (hr0 : Room 1 (A.deeper (envOfC "_law_mul" (defScope (top 39)) s.heap.objs.size f cdv))) :
    OkSs (cxOf CXL P w K mg base N_Lmul "_law_mul" (defScope (top 39)) f cdv A outer s H E) E (defBody (top 39)) b_Lmul :=
  (r_ss_one (r_ret (r_gc (r_call h_Lpart (hr0.mono (by decide)) pass_0 (r_cons (r_op o_mul (r_ix (r_var 0) r_int) (r_ix (r_var 1) r_int)) (r_cons (r_op o_mul (r_ix (r_var 0) r_int) (r_ix (r_var 1) r_int)) r_nil))))))
theorem has_Lmul (B : Bi mg) (h_Lpart : HasL P w K mg base "_law_part" ["upper", "lower"] 1 m_Lpart) (l : Lk K mg "_law_mul" (top 39) ["one", "other"]) : HasL P w K mg base "_law_mul" ["one", "other"] 2 m_Lmul := by
  obtain ⟨f, fd, g, F, b⟩ := l
  exact has_of g F b sc_Lmul b_Lmul fun cdv A outer s H E hr => ok_Lmul B h_Lpart hr
/-! ### _law_neg -/
abbrev N_Lneg : List Str := ["one"]
theorem sc_Lneg : FnScope N_Lneg ["one"] (defScope (top 40)) := ⟨rfl, rfl, rfl, by decide +kernel, rfl, by decide +kernel, by decide +kernel⟩
theorem ok_Lneg (B : Bi mg)  {f : Addr} {cdv : Value} {A : Around} {outer : List Env} {s : Shared} {H : Hp} {E : XK} (hr0 : Room 0 (A.deeper (envOfC "_law_neg" (defScope (top 40)) s.heap.objs.size f cdv))) :
    OkSs (cxOf CXL P w K mg base N_Lneg "_law_neg" (defScope (top 40)) f cdv A outer s H E) E (defBody (top 40)) b_Lneg :=
  (r_ss_one (r_ret (r_tup (r_cons (r_op o_sub r_int (r_ix (r_var 0) r_int)) (r_cons (r_ix (r_var 0) r_int) r_nil)))))
theorem has_Lneg (B : Bi mg)  (l : Lk K mg "_law_neg" (top 40) ["one"]) : HasL P w K mg base "_law_neg" ["one"] 1 m_Lneg := by
  obtain ⟨f, fd, g, F, b⟩ := l
  exact has_of g F b sc_Lneg b_Lneg fun cdv A outer s H E hr => ok_Lneg B hr
/-! ### _law_over -/
abbrev N_Lover : List Str := ["one", "other"]
theorem sc_Lover : FnScope N_Lover ["one", "other"] (defScope (top 41)) := ⟨rfl, rfl, rfl, by decide +kernel, rfl, by decide +kernel, by decide +kernel⟩
theorem ok_Lover (B : Bi mg) (h_Lpart : HasL P w K mg base "_law_part" ["upper", "lower"] 1 m_Lpart) {f : Addr} {cdv : Value} {A : Around} {outer : List Env} {s : Shared} {H : Hp} {E : XK} (hr0 : Room 1 (A.deeper (envOfC "_law_over" (defScope (top 41)) s.heap.objs.size f cdv))) :
    OkSs (cxOf CXL P w K mg base N_Lover "_law_over" (defScope (top 41)) f cdv A outer s H E) E (defBody (top 41)) b_Lover :=
  (r_ss_one (r_ret (r_gc (r_call h_Lpart (hr0.mono (by decide)) pass_0 (r_cons (r_op o_mul (r_ix (r_var 0) r_int) (r_ix (r_var 1) r_int)) (r_cons (r_op o_mul (r_ix (r_var 0) r_int) (r_ix (r_var 1) r_int)) r_nil))))))
theorem has_Lover (B : Bi mg) (h_Lpart : HasL P w K mg base "_law_part" ["upper", "lower"] 1 m_Lpart) (l : Lk K mg "_law_over" (top 41) ["one", "other"]) : HasL P w K mg base "_law_over" ["one", "other"] 2 m_Lover := by
  obtain ⟨f, fd, g, F, b⟩ := l
  exact has_of g F b sc_Lover b_Lover fun cdv A outer s H E hr => ok_Lover B h_Lpart hr
/-! ### _law_less -/
abbrev N_Lless : List Str := ["one", "other"]
theorem sc_Lless : FnScope N_Lless ["one", "other"] (defScope (top 42)) := ⟨rfl, rfl, rfl, by decide +kernel, rfl, by decide +kernel, by decide +kernel⟩
theorem ok_Lless (B : Bi mg)  {f : Addr} {cdv : Value} {A : Around} {outer : List Env} {s : Shared} {H : Hp} {E : XK} (hr0 : Room 0 (A.deeper (envOfC "_law_less" (defScope (top 42)) s.heap.objs.size f cdv))) :
    OkSs (cxOf CXL P w K mg base N_Lless "_law_less" (defScope (top 42)) f cdv A outer s H E) E (defBody (top 42)) b_Lless :=
  (r_ss_one (r_ret (r_cmp o_lt (r_op o_mul (r_ix (r_var 0) r_int) (r_ix (r_var 1) r_int)) (r_op o_mul (r_ix (r_var 1) r_int) (r_ix (r_var 0) r_int)))))
theorem has_Lless (B : Bi mg)  (l : Lk K mg "_law_less" (top 42) ["one", "other"]) : HasL P w K mg base "_law_less" ["one", "other"] 1 m_Lless := by
  obtain ⟨f, fd, g, F, b⟩ := l
  exact has_of g F b sc_Lless b_Lless fun cdv A outer s H E hr => ok_Lless B hr
/-! ### _law_total -/
abbrev N_Ltotal : List Str := ["rows", "found", "one"]
theorem sc_Ltotal : FnScope N_Ltotal ["rows"] (defScope (top 43)) := ⟨rfl, rfl, rfl, by decide +kernel, rfl, by decide +kernel, by decide +kernel⟩
theorem ok_Ltotal (B : Bi mg) (h_Ladd : HasL P w K mg base "_law_add" ["one", "other"] 2 m_Ladd) {f : Addr} {cdv : Value} {A : Around} {outer : List Env} {s : Shared} {H : Hp} {E : XK} (hr0 : Room 2 (A.deeper (envOfC "_law_total" (defScope (top 43)) s.heap.objs.size f cdv))) :
    OkSs (cxOf CXL P w K mg base N_Ltotal "_law_total" (defScope (top 43)) f cdv A outer s H E) E (defBody (top 43)) b_Ltotal :=
  (r_ss (r_set 1 sc_Ltotal.nd (r_tup (r_cons r_int (r_cons r_int r_nil)))) (r_ss (r_for own_any rfl (r_iseq (r_var 0)) (r_gname 2 sc_Ltotal.nd) (r_ss_one (r_set 1 sc_Ltotal.nd (r_gc (r_call h_Ladd (hr0.mono (by decide)) pass_0 (r_cons (r_var 1) (r_cons (r_var 2) r_nil))))))) (r_ss_one (r_ret (r_var 1)))))
theorem has_Ltotal (B : Bi mg) (h_Ladd : HasL P w K mg base "_law_add" ["one", "other"] 2 m_Ladd) (l : Lk K mg "_law_total" (top 43) ["rows"]) : HasL P w K mg base "_law_total" ["rows"] 3 m_Ltotal := by
  obtain ⟨f, fd, g, F, b⟩ := l
  exact has_of g F b sc_Ltotal b_Ltotal fun cdv A outer s H E hr => ok_Ltotal B h_Ladd hr
/-! ### _law_dot -/
abbrev N_Ldot : List Str := ["one", "other", "k"]
theorem sc_Ldot : FnScope N_Ldot ["one", "other"] (defScope (top 44)) := ⟨rfl, rfl, rfl, by decide +kernel, rfl, by decide +kernel, by decide +kernel⟩
theorem ok_Ldot (B : Bi mg) (h_Ltotal : HasL P w K mg base "_law_total" ["rows"] 3 m_Ltotal) (h_Lmul : HasL P w K mg base "_law_mul" ["one", "other"] 2 m_Lmul) {f : Addr} {cdv : Value} {A : Around} {outer : List Env} {s : Shared} {H : Hp} {E : XK} (hr0 : Room 3 (A.deeper (envOfC "_law_dot" (defScope (top 44)) s.heap.objs.size f cdv))) :
    OkSs (cxOf CXL P w K mg base N_Ldot "_law_dot" (defScope (top 44)) f cdv A outer s H E) E (defBody (top 44)) b_Ldot :=
  (r_ss_one (r_ret (r_gc (r_call h_Ltotal (hr0.mono (by decide)) pass_0 (r_cons (r_gc (r_lc [("k", 2)] rfl sc_Ldot.nd (r_irg1 B.range_ (r_callB k_len B.len_ (r_cons (r_var 0) r_nil))) (fun _ _ _ _ _ => (r_gname 2 sc_Ldot.nd)) (fun _ _ _ _ _ => r_ts0) (fun _ _ _ _ _ => (r_gc (r_call h_Lmul (hr0.mono (by decide)) pass_0 (r_cons (r_ix (r_var 0) (r_var 2)) (r_cons (r_ix (r_var 1) (r_var 2)) r_nil))))))) r_nil)))))
theorem has_Ldot (B : Bi mg) (h_Ltotal : HasL P w K mg base "_law_total" ["rows"] 3 m_Ltotal) (h_Lmul : HasL P w K mg base "_law_mul" ["one", "other"] 2 m_Lmul) (l : Lk K mg "_law_dot" (top 44) ["one", "other"]) : HasL P w K mg base "_law_dot" ["one", "other"] 4 m_Ldot := by
  obtain ⟨f, fd, g, F, b⟩ := l
  exact has_of g F b sc_Ldot b_Ldot fun cdv A outer s H E hr => ok_Ldot B h_Ltotal h_Lmul hr
/-! ### _law_most -/
abbrev N_Lmost : List Str := ["rows", "found", "one"]
theorem sc_Lmost : FnScope N_Lmost ["rows"] (defScope (top 45)) := ⟨rfl, rfl, rfl, by decide +kernel, rfl, by decide +kernel, by decide +kernel⟩
theorem ok_Lmost (B : Bi mg) (h_Lless : HasL P w K mg base "_law_less" ["one", "other"] 1 m_Lless) {f : Addr} {cdv : Value} {A : Around} {outer : List Env} {s : Shared} {H : Hp} {E : XK} (hr0 : Room 1 (A.deeper (envOfC "_law_most" (defScope (top 45)) s.heap.objs.size f cdv))) :
    OkSs (cxOf CXL P w K mg base N_Lmost "_law_most" (defScope (top 45)) f cdv A outer s H E) E (defBody (top 45)) b_Lmost :=
  (r_ss (r_set 1 sc_Lmost.nd (r_ix (r_var 0) r_int)) (r_ss (r_for own_any rfl (r_iseq (r_var 0)) (r_gname 2 sc_Lmost.nd) (r_ss_one (r_set 1 sc_Lmost.nd (r_ifE (r_tru (r_gc (r_call h_Lless (hr0.mono (by decide)) pass_0 (r_cons (r_var 1) (r_cons (r_var 2) r_nil))))) (r_var 2) (r_var 1))))) (r_ss_one (r_ret (r_var 1)))))
theorem has_Lmost (B : Bi mg) (h_Lless : HasL P w K mg base "_law_less" ["one", "other"] 1 m_Lless) (l : Lk K mg "_law_most" (top 45) ["rows"]) : HasL P w K mg base "_law_most" ["rows"] 2 m_Lmost := by
  obtain ⟨f, fd, g, F, b⟩ := l
  exact has_of g F b sc_Lmost b_Lmost fun cdv A outer s H E hr => ok_Lmost B h_Lless hr
/-! ### _law_least -/
abbrev N_Lleast : List Str := ["rows", "found", "one"]
theorem sc_Lleast : FnScope N_Lleast ["rows"] (defScope (top 46)) := ⟨rfl, rfl, rfl, by decide +kernel, rfl, by decide +kernel, by decide +kernel⟩
theorem ok_Lleast (B : Bi mg) (h_Lless : HasL P w K mg base "_law_less" ["one", "other"] 1 m_Lless) {f : Addr} {cdv : Value} {A : Around} {outer : List Env} {s : Shared} {H : Hp} {E : XK} (hr0 : Room 1 (A.deeper (envOfC "_law_least" (defScope (top 46)) s.heap.objs.size f cdv))) :
    OkSs (cxOf CXL P w K mg base N_Lleast "_law_least" (defScope (top 46)) f cdv A outer s H E) E (defBody (top 46)) b_Lleast :=
  (r_ss (r_set 1 sc_Lleast.nd (r_ix (r_var 0) r_int)) (r_ss (r_for own_any rfl (r_iseq (r_var 0)) (r_gname 2 sc_Lleast.nd) (r_ss_one (r_set 1 sc_Lleast.nd (r_ifE (r_tru (r_gc (r_call h_Lless (hr0.mono (by decide)) pass_0 (r_cons (r_var 2) (r_cons (r_var 1) r_nil))))) (r_var 2) (r_var 1))))) (r_ss_one (r_ret (r_var 1)))))
theorem has_Lleast (B : Bi mg) (h_Lless : HasL P w K mg base "_law_less" ["one", "other"] 1 m_Lless) (l : Lk K mg "_law_least" (top 46) ["rows"]) : HasL P w K mg base "_law_least" ["rows"] 2 m_Lleast := by
  obtain ⟨f, fd, g, F, b⟩ := l
  exact has_of g F b sc_Lleast b_Lleast fun cdv A outer s H E hr => ok_Lleast B h_Lless hr
/-! ### _law_fraction -/
abbrev N_Lfraction : List Str := ["state", "most"]
theorem sc_Lfraction : FnScope N_Lfraction ["state", "most"] (defScope (top 47)) := ⟨rfl, rfl, rfl, by decide +kernel, rfl, by decide +kernel, by decide +kernel⟩
theorem ok_Lfraction (B : Bi mg) (h_Lpart : HasL P w K mg base "_law_part" ["upper", "lower"] 1 m_Lpart) (h_Ltake : HasL P w K mg base "_law_take" ["state", "most"] 1 m_Ltake) {f : Addr} {cdv : Value} {A : Around} {outer : List Env} {s : Shared} {H : Hp} {E : XK} (hr0 : Room 1 (A.deeper (envOfC "_law_fraction" (defScope (top 47)) s.heap.objs.size f cdv))) :
    OkSs (cxOf CXL P w K mg base N_Lfraction "_law_fraction" (defScope (top 47)) f cdv A outer s H E) E (defBody (top 47)) b_Lfraction :=
  (r_ss_one (r_ret (r_gc (r_call h_Lpart (hr0.mono (by decide)) pass_0 (r_cons (r_op o_sub (r_gc (r_call h_Ltake (hr0.mono (by decide)) pass_0 (r_cons (r_var 0) (r_cons (r_op o_add (r_op o_mul r_int (r_var 1)) r_int) r_nil)))) (r_var 1)) (r_cons (r_gc (r_op o_add r_int (r_gc (r_call h_Ltake (hr0.mono (by decide)) pass_0 (r_cons (r_var 0) (r_cons r_int r_nil)))))) r_nil))))))
theorem has_Lfraction (B : Bi mg) (h_Lpart : HasL P w K mg base "_law_part" ["upper", "lower"] 1 m_Lpart) (h_Ltake : HasL P w K mg base "_law_take" ["state", "most"] 1 m_Ltake) (l : Lk K mg "_law_fraction" (top 47) ["state", "most"]) : HasL P w K mg base "_law_fraction" ["state", "most"] 2 m_Lfraction := by
  obtain ⟨f, fd, g, F, b⟩ := l
  exact has_of g F b sc_Lfraction b_Lfraction fun cdv A outer s H E hr => ok_Lfraction B h_Lpart h_Ltake hr
/-! ### _law_kids -/
abbrev N_Lkids : List Str := ["tree", "node", "k"]
theorem sc_Lkids : FnScope N_Lkids ["tree", "node"] (defScope (top 48)) := ⟨rfl, rfl, rfl, by decide +kernel, rfl, by decide +kernel, by decide +kernel⟩
theorem ok_Lkids (B : Bi mg)  {f : Addr} {cdv : Value} {A : Around} {outer : List Env} {s : Shared} {H : Hp} {E : XK} (hr0 : Room 0 (A.deeper (envOfC "_law_kids" (defScope (top 48)) s.heap.objs.size f cdv))) :
    OkSs (cxOf CXL P w K mg base N_Lkids "_law_kids" (defScope (top 48)) f cdv A outer s H E) E (defBody (top 48)) b_Lkids :=
  (r_ss_one (r_ret (r_gc (r_lc [("k", 2)] rfl sc_Lkids.nd (r_irg1 B.range_ (r_callB k_len B.len_ (r_cons (r_ix (r_var 0) r_int) r_nil))) (fun _ _ _ _ _ => (r_gname 2 sc_Lkids.nd)) (fun _ _ _ _ _ => (r_ts1 (r_tcmp (o_eq (hu65 hr0)) (r_ix (r_ix (r_ix (r_var 0) r_int) (r_var 2)) r_int) (r_var 1)))) (fun _ _ _ _ _ => (r_var 2))))))
theorem has_Lkids (B : Bi mg)  (l : Lk K mg "_law_kids" (top 48) ["tree", "node"]) : HasL P w K mg base "_law_kids" ["tree", "node"] 1 m_Lkids := by
  obtain ⟨f, fd, g, F, b⟩ := l
  exact has_of g F b sc_Lkids b_Lkids fun cdv A outer s H E hr => ok_Lkids B hr
/-! ### _law_road -/
abbrev N_Lroad : List Str := ["tree", "node", "found"]
theorem sc_Lroad : FnScope N_Lroad ["tree", "node"] (defScope (top 49)) := ⟨rfl, rfl, rfl, by decide +kernel, rfl, by decide +kernel, by decide +kernel⟩
theorem ok_Lroad (B : Bi mg)  {f : Addr} {cdv : Value} {A : Around} {outer : List Env} {s : Shared} {H : Hp} {E : XK} (hr0 : Room 0 (A.deeper (envOfC "_law_road" (defScope (top 49)) s.heap.objs.size f cdv))) :
    OkSs (cxOf CXL P w K mg base N_Lroad "_law_road" (defScope (top 49)) f cdv A outer s H E) E (defBody (top 49)) b_Lroad :=
  (r_ss (r_set 2 sc_Lroad.nd (r_lst (r_cons (r_var 1) r_nil))) (r_ss (r_while own_any (r_tcmp o_isnot (r_ix (r_ix (r_ix (r_var 0) r_int) (r_ix (r_var 2) r_int)) r_int) r_non) (r_ss_one (r_set 2 sc_Lroad.nd (r_gc (r_op o_add (r_lst (r_cons (r_ix (r_ix (r_ix (r_var 0) r_int) (r_ix (r_var 2) r_int)) r_int) r_nil)) (r_var 2)))))) (r_ss_one (r_ret (r_var 2)))))
theorem has_Lroad (B : Bi mg)  (l : Lk K mg "_law_road" (top 49) ["tree", "node"]) : HasL P w K mg base "_law_road" ["tree", "node"] 1 m_Lroad := by
  obtain ⟨f, fd, g, F, b⟩ := l
  exact has_of g F b sc_Lroad b_Lroad fun cdv A outer s H E hr => ok_Lroad B hr
/-! ### _law_shape -/
abbrev N_Lshape : List Str := ["state", "moments", "wide", "found", "level", "turn", "ahead_told", "node", "k"]
theorem sc_Lshape : FnScope N_Lshape ["state", "moments", "wide"] (defScope (top 50)) := ⟨rfl, rfl, rfl, by decide +kernel, rfl, by decide +kernel, by decide +kernel⟩
def b_Lshape : FS :=
  (fSeq (fPar 3 4 (fCons (fLst (fCons (fC .non) fNil)) (fCons (fLst (fCons (fC (.int 0)) fNil)) fNil))) (fSeq (fFor (iRg1 (fVar 1)) (gNm 5) (fSeq (fSet 6 (fLst fNil)) (fSeq (fFor (iSeq (fVar 4)) (gNm 7) (fFor (iRg1 (fGc (fOp dAdd (fC (.int 1)) (fGc (fCall 2 m_Ltake (fCons (fVar 0) (fCons (fIfE (fTst (fOp dEq (fVar 5) (fC (.int 0)))) (fVar 2) (fC (.int 2))) fNil))))))) (gNm 8) (fSeq (fExp (fMt mAppend (fVar 6) (fCons (fCB cLen (fCons (fVar 3) fNil)) fNil))) (fExp (fMt mAppend (fVar 3) (fCons (fVar 7) fNil)))))) (fSet 4 (fVar 6))))) (fRet (fVar 3))))
def m_Lshape : DCl := mOf 9 b_Lshape
theorem ok_Lshape (B : Bi mg) (h_Ltake : HasL P w K mg base "_law_take" ["state", "most"] 1 m_Ltake) {f : Addr} {cdv : Value} {A : Around} {outer : List Env} {s : Shared} {H : Hp} {E : XK} (hr0 : Room 1 (A.deeper (envOfC "_law_shape" (defScope (top 50)) s.heap.objs.size f cdv))) :
    OkSs (cxOf CXL P w K mg base N_Lshape "_law_shape" (defScope (top 50)) f cdv A outer s H E) E (defBody (top 50)) b_Lshape :=
  (r_ss (r_par 3 4 rfl sc_Lshape.nd (r_cons (r_lst (r_cons r_non r_nil)) (r_cons (r_lst (r_cons r_int r_nil)) r_nil))) (r_ss (r_for own_any rfl (r_irg1 B.range_ (r_var 1)) (r_gname 5 sc_Lshape.nd) (r_ss (r_set 6 sc_Lshape.nd (r_lst r_nil)) (r_ss (r_for own_any rfl (r_iseq (r_var 4)) (r_gname 7 sc_Lshape.nd) (r_ss_one (r_for own_any rfl (r_irg1 B.range_ (r_gc (r_op o_add r_int (r_gc (r_call h_Ltake (hr0.mono (by decide)) pass_0 (r_cons (r_var 0) (r_cons (r_ifE (r_tcmp (o_eq (hu65 hr0)) (r_var 5) r_int) (r_var 2) r_int) r_nil))))))) (r_gname 8 sc_Lshape.nd) (r_ss (r_expr (r_meth PySem.F.slot_list_append PySem.F.type_list_append m_append (r_var 6) (r_cons (r_callB k_len B.len_ (r_cons (r_var 3) r_nil)) r_nil))) (r_ss_one (r_expr (r_meth PySem.F.slot_list_append PySem.F.type_list_append m_append (r_var 3) (r_cons (r_var 7) r_nil)))))))) (r_ss_one (r_set 4 sc_Lshape.nd (r_var 6)))))) (r_ss_one (r_ret (r_var 3)))))
theorem has_Lshape (B : Bi mg) (h_Ltake : HasL P w K mg base "_law_take" ["state", "most"] 1 m_Ltake) (l : Lk K mg "_law_shape" (top 50) ["state", "moments", "wide"]) : HasL P w K mg base "_law_shape" ["state", "moments", "wide"] 2 m_Lshape := by
  obtain ⟨f, fd, g, F, b⟩ := l
  exact has_of g F b sc_Lshape b_Lshape fun cdv A outer s H E hr => ok_Lshape B h_Ltake hr
/-! ### _law_tree -/
abbrev N_Ltree : List Str := ["state", "moments", "wide", "shape", "many", "prices_told", "node", "kids", "weights", "k", "j"]
theorem sc_Ltree : FnScope N_Ltree ["state", "moments", "wide"] (defScope (top 51)) := ⟨rfl, rfl, rfl, by decide +kernel, rfl, by decide +kernel, by decide +kernel⟩
noncomputable def b_Ltree : FS :=
  (fSeq (fAsg (fTup (fCons (fGc (fCall 3 m_Lshape (fCons (fVar 0) (fCons (fVar 1) (fCons (fVar 2) fNil))))) (fCons (fGc (fOp dAdd (fC (.int 1)) (fGc (fCall 2 m_Ltake (fCons (fVar 0) (fCons (fC (.int 2)) fNil)))))) fNil))) (gTp 2 (gsCons (gNm 3) (gsCons (gNm 4) gsNil)))) (fSeq (fSet 5 (fGc (fOp dMul (fLst (fCons (fC .non) fNil)) (fCB cLen (fCons (fVar 3) fNil))))) (fSeq (fFor (iRgN (fOp dSub (fCB cLen (fCons (fVar 3) fNil)) (fC (.int 1))) (fNeg (fC (.int 1))) (fNeg (fC (.int 1)))) (gNm 6) (fSeq (fSet 7 (fGc (fLc [9] (iRg1 (fCB cLen (fCons (fVar 3) fNil))) (gNm 9) (fTst (fOp dEq (fOp dIx (fVar 3) (fVar 9)) (fVar 6))) (fVar 9)))) (fIf (fGcT (fTst (fOp dEq (fVar 7) (fLst fNil)))) (fAsg (fGc (fCB cTup (fCons (fGc (fLc [10] (iRg1 (fVar 4)) (gNm 10) fYes (fGc (fCall 2 m_Lpart (fCons (fGc (fOp dAdd (fC (.int 1)) (fGc (fCall 2 m_Ltake (fCons (fVar 0) (fCons (fC (.int 6)) fNil)))))) (fCons (fGc (fOp dAdd (fC (.int 1)) (fGc (fCall 2 m_Ltake (fCons (fVar 0) (fCons (fC (.int 2)) fNil)))))) fNil)))))) fNil))) (gSb (fVar 5) (fVar 6))) (fSeq (fSet 8 (fGc (fLc [9] (iSeq (fVar 7)) (gNm 9) fYes (fGc (fCall 2 m_Lpart (fCons (fGc (fOp dAdd (fC (.int 1)) (fGc (fCall 2 m_Ltake (fCons (fVar 0) (fCons (fC (.int 3)) fNil)))))) (fCons (fGc (fOp dAdd (fC (.int 1)) (fGc (fCall 2 m_Ltake (fCons (fVar 0) (fCons (fC (.int 3)) fNil)))))) fNil))))))) (fAsg (fGc (fCB cTup (fCons (fGc (fLc [10] (iRg1 (fVar 4)) (gNm 10) fYes (fGc (fCall 2 m_Ldot (fCons (fVar 8) (fCons (fGc (fLc [9] (iSeq (fVar 7)) (gNm 9) fYes (fOp dIx (fOp dIx (fVar 5) (fVar 9)) (fVar 10)))) fNil)))))) fNil))) (gSb (fVar 5) (fVar 6))))))) (fRet (fTup (fCons (fC (.str "tree")) (fCons (fSl (fTup (fCons (fC (.str "a")) (fCons (fC (.str "b")) fNil))) fNo (fSo (fVar 4))) (fCons (fGc (fCB cTup (fCons (fGc (fLc [9] (iRg1 (fCB cLen (fCons (fVar 3) fNil))) (gNm 9) fYes (fTup (fCons (fOp dIx (fVar 3) (fVar 9)) (fCons (fOp dIx (fVar 5) (fVar 9)) fNil))))) fNil))) fNil))))))))
noncomputable def m_Ltree : DCl := mOf 11 b_Ltree
theorem ok_Ltree (B : Bi mg) (h_Lshape : HasL P w K mg base "_law_shape" ["state", "moments", "wide"] 2 m_Lshape) (h_Ltake : HasL P w K mg base "_law_take" ["state", "most"] 1 m_Ltake) (h_Lpart : HasL P w K mg base "_law_part" ["upper", "lower"] 1 m_Lpart) (h_Ldot : HasL P w K mg base "_law_dot" ["one", "other"] 4 m_Ldot) {f : Addr} {cdv : Value} {A : Around} {outer : List Env} {s : Shared} {H : Hp} {E : XK} (hr0 : Room 4 (A.deeper (envOfC "_law_tree" (defScope (top 51)) s.heap.objs.size f cdv))) :
    OkSs (cxOf CXL P w K mg base N_Ltree "_law_tree" (defScope (top 51)) f cdv A outer s H E) E (defBody (top 51)) b_Ltree :=
  (r_ss (r_asg (r_tup (r_cons (r_gc (r_call h_Lshape (hr0.mono (by decide)) pass_0 (r_cons (r_var 0) (r_cons (r_var 1) (r_cons (r_var 2) r_nil))))) (r_cons (r_gc (r_op o_add r_int (r_gc (r_call h_Ltake (hr0.mono (by decide)) pass_0 (r_cons (r_var 0) (r_cons r_int r_nil)))))) r_nil))) (r_gtup (n := 2) rfl (r_gcons (r_gname 3 sc_Ltree.nd) (r_gcons (r_gname 4 sc_Ltree.nd) r_gnil)))) (r_ss (r_set 5 sc_Ltree.nd (r_gc (r_op o_mul (r_lst (r_cons r_non r_nil)) (r_callB k_len B.len_ (r_cons (r_var 3) r_nil))))) (r_ss (r_for own_any rfl (r_irgn B.range_ (r_op o_sub (r_callB k_len B.len_ (r_cons (r_var 3) r_nil)) r_int) (r_neg r_int) (r_neg r_int)) (r_gname 6 sc_Ltree.nd) (r_ss (r_set 7 sc_Ltree.nd (r_gc (r_lc [("k", 9)] rfl sc_Ltree.nd (r_irg1 B.range_ (r_callB k_len B.len_ (r_cons (r_var 3) r_nil))) (fun _ _ _ _ _ => (r_gname 9 sc_Ltree.nd)) (fun _ _ _ _ _ => (r_ts1 (r_tcmp (o_eq (hu65 hr0)) (r_ix (r_var 3) (r_var 9)) (r_var 6)))) (fun _ _ _ _ _ => (r_var 9))))) (r_ss_one (r_if (r_gct (r_tcmp (o_eq (hu65 hr0)) (r_var 7) (r_lst r_nil))) (r_ss_one (r_asg (r_gc (r_callTy k_tuple B.tuple_ (r_cons (r_gc (r_lc [("j", 10)] rfl sc_Ltree.nd (r_irg1 B.range_ (r_var 4)) (fun _ _ _ _ _ => (r_gname 10 sc_Ltree.nd)) (fun _ _ _ _ _ => r_ts0) (fun _ _ _ _ _ => (r_gc (r_call h_Lpart (hr0.mono (by decide)) pass_0 (r_cons (r_gc (r_op o_add r_int (r_gc (r_call h_Ltake (hr0.mono (by decide)) pass_0 (r_cons (r_var 0) (r_cons r_int r_nil)))))) (r_cons (r_gc (r_op o_add r_int (r_gc (r_call h_Ltake (hr0.mono (by decide)) pass_0 (r_cons (r_var 0) (r_cons r_int r_nil)))))) r_nil))))))) r_nil))) (r_gsub (r_var 5) (r_var 6)))) (r_ss (r_set 8 sc_Ltree.nd (r_gc (r_lc [("k", 9)] rfl sc_Ltree.nd (r_iseq (r_var 7)) (fun _ _ _ _ _ => (r_gname 9 sc_Ltree.nd)) (fun _ _ _ _ _ => r_ts0) (fun _ _ _ _ _ => (r_gc (r_call h_Lpart (hr0.mono (by decide)) pass_0 (r_cons (r_gc (r_op o_add r_int (r_gc (r_call h_Ltake (hr0.mono (by decide)) pass_0 (r_cons (r_var 0) (r_cons r_int r_nil)))))) (r_cons (r_gc (r_op o_add r_int (r_gc (r_call h_Ltake (hr0.mono (by decide)) pass_0 (r_cons (r_var 0) (r_cons r_int r_nil)))))) r_nil)))))))) (r_ss_one (r_asg (r_gc (r_callTy k_tuple B.tuple_ (r_cons (r_gc (r_lc [("j", 10)] rfl sc_Ltree.nd (r_irg1 B.range_ (r_var 4)) (fun _ _ _ _ _ => (r_gname 10 sc_Ltree.nd)) (fun _ _ _ _ _ => r_ts0) (fun _ _ _ _ _ => (r_gc (r_call h_Ldot (hr0.mono (by decide)) pass_0 (r_cons (r_var 8) (r_cons (r_gc (r_lc [("k", 9)] rfl sc_Ltree.nd (r_iseq (r_var 7)) (fun _ _ _ _ _ => (r_gname 9 sc_Ltree.nd)) (fun _ _ _ _ _ => r_ts0) (fun _ _ _ _ _ => (r_ix (r_ix (r_var 5) (r_var 9)) (r_var 10))))) r_nil))))))) r_nil))) (r_gsub (r_var 5) (r_var 6))))))))) (r_ss_one (r_ret (r_tup (r_cons r_str (r_cons (r_slice (r_tup (r_cons r_str (r_cons r_str r_nil))) r_no (r_so (r_var 4))) (r_cons (r_gc (r_callTy k_tuple B.tuple_ (r_cons (r_gc (r_lc [("k", 9)] rfl sc_Ltree.nd (r_irg1 B.range_ (r_callB k_len B.len_ (r_cons (r_var 3) r_nil))) (fun _ _ _ _ _ => (r_gname 9 sc_Ltree.nd)) (fun _ _ _ _ _ => r_ts0) (fun _ _ _ _ _ => (r_tup (r_cons (r_ix (r_var 3) (r_var 9)) (r_cons (r_ix (r_var 5) (r_var 9)) r_nil)))))) r_nil))) r_nil)))))))))
theorem has_Ltree (B : Bi mg) (h_Lshape : HasL P w K mg base "_law_shape" ["state", "moments", "wide"] 2 m_Lshape) (h_Ltake : HasL P w K mg base "_law_take" ["state", "most"] 1 m_Ltake) (h_Lpart : HasL P w K mg base "_law_part" ["upper", "lower"] 1 m_Lpart) (h_Ldot : HasL P w K mg base "_law_dot" ["one", "other"] 4 m_Ldot) (l : Lk K mg "_law_tree" (top 51) ["state", "moments", "wide"]) : HasL P w K mg base "_law_tree" ["state", "moments", "wide"] 5 m_Ltree := by
  obtain ⟨f, fd, g, F, b⟩ := l
  exact has_of g F b sc_Ltree b_Ltree fun cdv A outer s H E hr => ok_Ltree B h_Lshape h_Ltake h_Lpart h_Ldot hr
/-! ### _law_row -/
abbrev N_Lrow : List Str := ["state", "tree", "node"]
theorem sc_Lrow : FnScope N_Lrow ["state", "tree"] (defScope (top 52)) := ⟨rfl, rfl, rfl, by decide +kernel, rfl, by decide +kernel, by decide +kernel⟩
theorem ok_Lrow (B : Bi mg) (h_Lfraction : HasL P w K mg base "_law_fraction" ["state", "most"] 2 m_Lfraction) {f : Addr} {cdv : Value} {A : Around} {outer : List Env} {s : Shared} {H : Hp} {E : XK} (hr0 : Room 2 (A.deeper (envOfC "_law_row" (defScope (top 52)) s.heap.objs.size f cdv))) :
    OkSs (cxOf CXL P w K mg base N_Lrow "_law_row" (defScope (top 52)) f cdv A outer s H E) E (defBody (top 52)) b_Lrow :=
  (r_ss_one (r_ret (r_gc (r_callTy k_tuple B.tuple_ (r_cons (r_gc (r_lc [("node", 2)] rfl sc_Lrow.nd (r_iseq (r_ix (r_var 1) r_int)) (fun _ _ _ _ _ => (r_gname 2 sc_Lrow.nd)) (fun _ _ _ _ _ => r_ts0) (fun _ _ _ _ _ => (r_gc (r_call h_Lfraction (hr0.mono (by decide)) pass_0 (r_cons (r_var 0) (r_cons r_int r_nil))))))) r_nil)))))
theorem has_Lrow (B : Bi mg) (h_Lfraction : HasL P w K mg base "_law_fraction" ["state", "most"] 2 m_Lfraction) (l : Lk K mg "_law_row" (top 52) ["state", "tree"]) : HasL P w K mg base "_law_row" ["state", "tree"] 3 m_Lrow := by
  obtain ⟨f, fd, g, F, b⟩ := l
  exact has_of g F b sc_Lrow b_Lrow fun cdv A outer s H E hr => ok_Lrow B h_Lfraction hr
/-! ### _law_chances -/
abbrev N_Lchances : List Str := ["state", "many", "rows", "k", "one"]
theorem sc_Lchances : FnScope N_Lchances ["state", "many"] (defScope (top 53)) := ⟨rfl, rfl, rfl, by decide +kernel, rfl, by decide +kernel, by decide +kernel⟩
noncomputable def b_Lchances : FS :=
  (fSeq (fSet 2 (fGc (fLc [3] (iRg1 (fVar 1)) (gNm 3) fYes (fGc (fOp dAdd (fC (.int 1)) (fGc (fCall 2 m_Ltake (fCons (fVar 0) (fCons (fC (.int 4)) fNil))))))))) (fRet (fGc (fCB cTup (fCons (fGc (fLc [4] (iSeq (fVar 2)) (gNm 4) fYes (fGc (fCall 2 m_Lpart (fCons (fVar 4) (fCons (fCB cSum (fCons (fVar 2) fNil)) fNil)))))) fNil)))))
noncomputable def m_Lchances : DCl := mOf 5 b_Lchances
theorem ok_Lchances (B : Bi mg) (h_Ltake : HasL P w K mg base "_law_take" ["state", "most"] 1 m_Ltake) (h_Lpart : HasL P w K mg base "_law_part" ["upper", "lower"] 1 m_Lpart) {f : Addr} {cdv : Value} {A : Around} {outer : List Env} {s : Shared} {H : Hp} {E : XK} (hr0 : Room 1 (A.deeper (envOfC "_law_chances" (defScope (top 53)) s.heap.objs.size f cdv))) :
    OkSs (cxOf CXL P w K mg base N_Lchances "_law_chances" (defScope (top 53)) f cdv A outer s H E) E (defBody (top 53)) b_Lchances :=
  (r_ss (r_set 2 sc_Lchances.nd (r_gc (r_lc [("k", 3)] rfl sc_Lchances.nd (r_irg1 B.range_ (r_var 1)) (fun _ _ _ _ _ => (r_gname 3 sc_Lchances.nd)) (fun _ _ _ _ _ => r_ts0) (fun _ _ _ _ _ => (r_gc (r_op o_add r_int (r_gc (r_call h_Ltake (hr0.mono (by decide)) pass_0 (r_cons (r_var 0) (r_cons r_int r_nil)))))))))) (r_ss_one (r_ret (r_gc (r_callTy k_tuple B.tuple_ (r_cons (r_gc (r_lc [("one", 4)] rfl sc_Lchances.nd (r_iseq (r_var 2)) (fun _ _ _ _ _ => (r_gname 4 sc_Lchances.nd)) (fun _ _ _ _ _ => r_ts0) (fun _ _ _ _ _ => (r_gc (r_call h_Lpart (hr0.mono (by decide)) pass_0 (r_cons (r_var 4) (r_cons (r_callB (k_sum rfl) B.sum_ (r_cons (r_var 2) r_nil)) r_nil))))))) r_nil))))))
theorem has_Lchances (B : Bi mg) (h_Ltake : HasL P w K mg base "_law_take" ["state", "most"] 1 m_Ltake) (h_Lpart : HasL P w K mg base "_law_part" ["upper", "lower"] 1 m_Lpart) (l : Lk K mg "_law_chances" (top 53) ["state", "many"]) : HasL P w K mg base "_law_chances" ["state", "many"] 2 m_Lchances := by
  obtain ⟨f, fd, g, F, b⟩ := l
  exact has_of g F b sc_Lchances b_Lchances fun cdv A outer s H E hr => ok_Lchances B h_Ltake h_Lpart hr
/-! ### _law_places -/
abbrev N_Lplaces : List Str := ["values", "found", "k", "spot", "j"]
theorem sc_Lplaces : FnScope N_Lplaces ["values"] (defScope (top 54)) := ⟨rfl, rfl, rfl, by decide +kernel, rfl, by decide +kernel, by decide +kernel⟩
def b_Lplaces : FS :=
  (fSeq (fSet 1 (fLst fNil)) (fSeq (fFor (iRg1 (fCB cLen (fCons (fVar 0) fNil))) (gNm 2) (fSeq (fSet 3 (fGc (fCB cLen (fCons (fGc (fLc [4] (iSeq (fVar 1)) (gNm 4) (fNotT (fTru (fGc (fCall 2 m_Lless (fCons (fOp dIx (fVar 0) (fVar 2)) (fCons (fOp dIx (fVar 0) (fVar 4)) fNil)))))) (fVar 4))) fNil)))) (fExp (fMt mInsert (fVar 1) (fCons (fVar 3) (fCons (fVar 2) fNil)))))) (fRet (fVar 1))))
def m_Lplaces : DCl := mOf 5 b_Lplaces
theorem ok_Lplaces (B : Bi mg) (h_Lless : HasL P w K mg base "_law_less" ["one", "other"] 1 m_Lless) {f : Addr} {cdv : Value} {A : Around} {outer : List Env} {s : Shared} {H : Hp} {E : XK} (hr0 : Room 1 (A.deeper (envOfC "_law_places" (defScope (top 54)) s.heap.objs.size f cdv))) :
    OkSs (cxOf CXL P w K mg base N_Lplaces "_law_places" (defScope (top 54)) f cdv A outer s H E) E (defBody (top 54)) b_Lplaces :=
  (r_ss (r_set 1 sc_Lplaces.nd (r_lst r_nil)) (r_ss (r_for own_any rfl (r_irg1 B.range_ (r_callB k_len B.len_ (r_cons (r_var 0) r_nil))) (r_gname 2 sc_Lplaces.nd) (r_ss (r_set 3 sc_Lplaces.nd (r_gc (r_callB k_len B.len_ (r_cons (r_gc (r_lc [("j", 4)] rfl sc_Lplaces.nd (r_iseq (r_var 1)) (fun _ _ _ _ _ => (r_gname 4 sc_Lplaces.nd)) (fun _ _ _ _ _ => (r_ts1 (r_tnot (r_tru (r_gc (r_call h_Lless (hr0.mono (by decide)) pass_0 (r_cons (r_ix (r_var 0) (r_var 2)) (r_cons (r_ix (r_var 0) (r_var 4)) r_nil)))))))) (fun _ _ _ _ _ => (r_var 4)))) r_nil)))) (r_ss_one (r_expr (r_meth PySem.F.slot_list_insert PySem.F.type_list_insert m_insert (r_var 1) (r_cons (r_var 3) (r_cons (r_var 2) r_nil))))))) (r_ss_one (r_ret (r_var 1)))))
theorem has_Lplaces (B : Bi mg) (h_Lless : HasL P w K mg base "_law_less" ["one", "other"] 1 m_Lless) (l : Lk K mg "_law_places" (top 54) ["values"]) : HasL P w K mg base "_law_places" ["values"] 2 m_Lplaces := by
  obtain ⟨f, fd, g, F, b⟩ := l
  exact has_of g F b sc_Lplaces b_Lplaces fun cdv A outer s H E hr => ok_Lplaces B h_Lless hr
/-! ### _law_weights -/
abbrev N_Lweights : List Str := ["values", "chances_told", "share", "found", "left", "k", "now"]
theorem sc_Lweights : FnScope N_Lweights ["values", "chances_told", "share"] (defScope (top 55)) := ⟨rfl, rfl, rfl, by decide +kernel, rfl, by decide +kernel, by decide +kernel⟩
noncomputable def b_Lweights : FS :=
  (fSeq (fPar 3 4 (fCons (fGc (fOp dMul (fLst (fCons (fTup (fCons (fC (.int 0)) (fCons (fC (.int 1)) fNil))) fNil)) (fCB cLen (fCons (fVar 0) fNil)))) (fCons (fTup (fCons (fC (.int 1)) (fCons (fC (.int 1)) fNil))) fNil))) (fSeq (fFor (iSeq (fGc (fCall 1 m_Lplaces (fCons (fVar 0) fNil)))) (gNm 5) (fSeq (fSet 6 (fGc (fCall 1 m_Lleast (fCons (fLst (fCons (fVar 4) (fCons (fGc (fCall 2 m_Lover (fCons (fOp dIx (fVar 1) (fVar 5)) (fCons (fVar 2) fNil)))) fNil))) fNil)))) (fSeq (fAsg (fVar 6) (gSb (fVar 3) (fVar 5))) (fSet 4 (fGc (fCall 2 m_Ladd (fCons (fVar 4) (fCons (fGc (fCall 1 m_Lneg (fCons (fVar 6) fNil))) fNil)))))))) (fRet (fCB cTup (fCons (fVar 3) fNil)))))
noncomputable def m_Lweights : DCl := mOf 7 b_Lweights
theorem ok_Lweights (B : Bi mg) (h_Lplaces : HasL P w K mg base "_law_places" ["values"] 2 m_Lplaces) (h_Lleast : HasL P w K mg base "_law_least" ["rows"] 2 m_Lleast) (h_Lover : HasL P w K mg base "_law_over" ["one", "other"] 2 m_Lover) (h_Ladd : HasL P w K mg base "_law_add" ["one", "other"] 2 m_Ladd) (h_Lneg : HasL P w K mg base "_law_neg" ["one"] 1 m_Lneg) {f : Addr} {cdv : Value} {A : Around} {outer : List Env} {s : Shared} {H : Hp} {E : XK} (hr0 : Room 2 (A.deeper (envOfC "_law_weights" (defScope (top 55)) s.heap.objs.size f cdv))) :
    OkSs (cxOf CXL P w K mg base N_Lweights "_law_weights" (defScope (top 55)) f cdv A outer s H E) E (defBody (top 55)) b_Lweights :=
  (r_ss (r_par 3 4 rfl sc_Lweights.nd (r_cons (r_gc (r_op o_mul (r_lst (r_cons (r_tup (r_cons r_int (r_cons r_int r_nil))) r_nil)) (r_callB k_len B.len_ (r_cons (r_var 0) r_nil)))) (r_cons (r_tup (r_cons r_int (r_cons r_int r_nil))) r_nil))) (r_ss (r_for own_any rfl (r_iseq (r_gc (r_call h_Lplaces (hr0.mono (by decide)) pass_0 (r_cons (r_var 0) r_nil)))) (r_gname 5 sc_Lweights.nd) (r_ss (r_set 6 sc_Lweights.nd (r_gc (r_call h_Lleast (hr0.mono (by decide)) pass_0 (r_cons (r_lst (r_cons (r_var 4) (r_cons (r_gc (r_call h_Lover (hr0.mono (by decide)) pass_0 (r_cons (r_ix (r_var 1) (r_var 5)) (r_cons (r_var 2) r_nil)))) r_nil))) r_nil)))) (r_ss (r_asg (r_var 6) (r_gsub (r_var 3) (r_var 5))) (r_ss_one (r_set 4 sc_Lweights.nd (r_gc (r_call h_Ladd (hr0.mono (by decide)) pass_0 (r_cons (r_var 4) (r_cons (r_gc (r_call h_Lneg (hr0.mono (by decide)) pass_0 (r_cons (r_var 6) r_nil))) r_nil))))))))) (r_ss_one (r_ret (r_callTy k_tuple B.tuple_ (r_cons (r_var 3) r_nil))))))
theorem has_Lweights (B : Bi mg) (h_Lplaces : HasL P w K mg base "_law_places" ["values"] 2 m_Lplaces) (h_Lleast : HasL P w K mg base "_law_least" ["rows"] 2 m_Lleast) (h_Lover : HasL P w K mg base "_law_over" ["one", "other"] 2 m_Lover) (h_Ladd : HasL P w K mg base "_law_add" ["one", "other"] 2 m_Ladd) (h_Lneg : HasL P w K mg base "_law_neg" ["one"] 1 m_Lneg) (l : Lk K mg "_law_weights" (top 55) ["values", "chances_told", "share"]) : HasL P w K mg base "_law_weights" ["values", "chances_told", "share"] 3 m_Lweights := by
  obtain ⟨f, fd, g, F, b⟩ := l
  exact has_of g F b sc_Lweights b_Lweights fun cdv A outer s H E hr => ok_Lweights B h_Lplaces h_Lleast h_Lover h_Ladd h_Lneg hr
/-! ### _law_shares -/
abbrev N_Lshares : List Str := ["state", "many", "values", "chances_told", "share", "weights", "due", "turn", "other", "good", "told", "bent", "least_told", "k", "value"]
theorem sc_Lshares : FnScope N_Lshares ["state"] (defScope (top 56)) := ⟨rfl, rfl, rfl, by decide +kernel, rfl, by decide +kernel, by decide +kernel⟩
noncomputable def b_Lshares : FS :=
  (fSeq (fSet 1 (fGc (fOp dAdd (fC (.int 1)) (fGc (fCall 2 m_Ltake (fCons (fVar 0) (fCons (fC (.int 5)) fNil))))))) (fSeq (fAsg (fTup (fCons (fGc (fLc [13] (iRg1 (fVar 1)) (gNm 13) fYes (fGc (fCall 2 m_Lfraction (fCons (fVar 0) (fCons (fC (.int 3)) fNil)))))) (fCons (fGc (fCall 2 m_Lchances (fCons (fVar 0) (fCons (fVar 1) fNil)))) fNil))) (gTp 2 (gsCons (gNm 2) (gsCons (gNm 3) gsNil)))) (fSeq (fSet 4 (fGc (fCall 2 m_Lpart (fCons (fGc (fOp dAdd (fC (.int 1)) (fGc (fCall 2 m_Ltake (fCons (fVar 0) (fCons (fC (.int 6)) fNil)))))) (fCons (fC (.int 6)) fNil))))) (fSeq (fSet 5 (fGc (fCall 3 m_Lweights (fCons (fVar 2) (fCons (fVar 3) (fCons (fVar 4) fNil)))))) (fSeq (fSet 6 (fGc (fCall 2 m_Ldot (fCons (fVar 5) (fCons (fVar 2) fNil))))) (fSeq (fIf (fOrT (fGcT (fTst (fOp dNe (fGc (fCall 1 m_sorted_places (fCons (fVar 2) fNil))) (fGc (fCall 1 m_Lplaces (fCons (fVar 2) fNil)))))) (fOrT (fGcT (fTst (fOp dNe (fGc (fCall 3 m_worst (fCons (fVar 2) (fCons (fVar 3) (fCons (fVar 4) fNil))))) (fVar 6)))) (fGcT (fTst (fOp dNe (fGc (fCall 3 m_worst_weights (fCons (fVar 2) (fCons (fVar 3) (fCons (fVar 4) fNil))))) (fVar 5)))))) (fRet (fC (.bl false))) fNx) (fSeq (fIf (fOrT (fGcT (fTst (fOp dIsNot (fGc (fCall 5 m_accepts_weights (fCons (fVar 2) (fCons (fVar 3) (fCons (fVar 4) (fCons (fVar 6) (fCons (fVar 5) fNil))))))) (fC (.bl true))))) (fGcT (fTst (fOp dNe (fGc (fCall 1 m_Ltotal (fCons (fVar 5) fNil))) (fTup (fCons (fC (.int 1)) (fCons (fC (.int 1)) fNil))))))) (fRet (fC (.bl false))) fNx) (fSeq (fFor (iRg1 (fC (.int 3))) (gNm 7) (fSeq (fSet 8 (fGc (fCall 2 m_Lchances (fCons (fVar 0) (fCons (fVar 1) fNil))))) (fSeq (fSet 9 (fGc (fOp dEq (fGc (fCB cLen (fCons (fGc (fLc [13] (iRg1 (fVar 1)) (gNm 13) (fTru (fGc (fCall 2 m_Lless (fCons (fGc (fCall 2 m_Lover (fCons (fOp dIx (fVar 3) (fVar 13)) (fCons (fVar 4) fNil)))) (fCons (fOp dIx (fVar 8) (fVar 13)) fNil))))) (fVar 13))) fNil))) (fC (.int 0))))) (fSeq (fSet 10 (fGc (fCall 2 m_Ldot (fCons (fVar 8) (fCons (fVar 2) fNil))))) (fSeq (fIf (fOrT (fAndT (fTru (fVar 9)) (fTru (fGc (fCall 2 m_Lless (fCons (fVar 10) (fCons (fVar 6) fNil)))))) (fGcT (fTst (fOp dNe (fGc (fCall 5 m_accepts_weights (fCons (fVar 2) (fCons (fVar 3) (fCons (fVar 4) (fCons (fVar 6) (fCons (fVar 8) fNil))))))) (fAndV (fVar 9) (fOp dEq (fVar 10) (fVar 6))))))) (fRet (fC (.bl false))) fNx) (fIf (fGcT (fTst (fOp dNe (fGc (fCall 5 m_accepts_weights (fCons (fVar 2) (fCons (fVar 3) (fCons (fVar 4) (fCons (fVar 10) (fCons (fVar 8) fNil))))))) (fVar 9)))) (fRet (fC (.bl false))) fNx)))))) (fSeq (fSet 11 (fLst (fCons (fC .non) (fCons (fGc (fCB cList (fCons (fVar 5) fNil))) (fCons (fSl (fVar 5) fNo (fSo (fNeg (fC (.int 1))))) (fCons (fOp dAdd (fVar 5) (fTup (fCons (fTup (fCons (fC (.int 0)) (fCons (fC (.int 1)) fNil))) fNil))) (fCons (fGc (fOp dAdd (fTup (fCons (fGc (fCall 2 m_Ladd (fCons (fOp dIx (fVar 5) (fC (.int 0))) (fCons (fTup (fCons (fC (.int 1)) (fCons (fC (.int 1)) fNil))) fNil)))) fNil)) (fSl (fVar 5) (fSo (fC (.int 1))) fNo))) fNil))))))) (fSeq (fIf (fGcT (fTst (fOp dNe (fGc (fLc [14] (iSeq (fVar 11)) (gNm 14) fYes (fGc (fCall 5 m_accepts_weights (fCons (fVar 2) (fCons (fVar 3) (fCons (fVar 4) (fCons (fVar 6) (fCons (fVar 14) fNil))))))))) (fGc (fOp dMul (fLst (fCons (fC (.bl false)) fNil)) (fC (.int 5))))))) (fRet (fC (.bl false))) fNx) (fSeq (fSet 12 (fGc (fCall 2 m_Lpart (fCons (fC (.int 1)) (fCons (fC (.int 100)) fNil))))) (fSeq (fIf (fOrT (fGcT (fTst (fOp dNe (fGc (fCall 3 m_worst (fCons (fVar 2) (fCons (fVar 3) (fCons (fTup (fCons (fC (.int 1)) (fCons (fC (.int 1)) fNil))) fNil))))) (fGc (fCall 2 m_Ldot (fCons (fVar 3) (fCons (fVar 2) fNil))))))) (fGcT (fTst (fOp dNe (fGc (fCall 3 m_worst (fCons (fVar 2) (fCons (fVar 3) (fCons (fVar 12) fNil))))) (fGc (fCall 1 m_Lleast (fCons (fVar 2) fNil))))))) (fRet (fC (.bl false))) fNx) (fRet (fNotV (fGc (fCall 2 m_Lless (fCons (fGc (fCall 2 m_Ldot (fCons (fVar 3) (fCons (fVar 2) fNil)))) (fCons (fVar 6) fNil))))))))))))))))))
noncomputable def m_Lshares : DCl := mOf 15 b_Lshares
theorem ok_Lshares (B : Bi mg) (h_Ltake : HasL P w K mg base "_law_take" ["state", "most"] 1 m_Ltake) (h_Lfraction : HasL P w K mg base "_law_fraction" ["state", "most"] 2 m_Lfraction) (h_Lchances : HasL P w K mg base "_law_chances" ["state", "many"] 2 m_Lchances) (h_Lpart : HasL P w K mg base "_law_part" ["upper", "lower"] 1 m_Lpart) (h_Lweights : HasL P w K mg base "_law_weights" ["values", "chances_told", "share"] 3 m_Lweights) (h_Ldot : HasL P w K mg base "_law_dot" ["one", "other"] 4 m_Ldot) (h_sorted_places : HasL P w K mg base "sorted_places" ["values"] 2 m_sorted_places) (h_Lplaces : HasL P w K mg base "_law_places" ["values"] 2 m_Lplaces) (h_worst : HasL P w K mg base "worst" ["values", "chances", "share"] 4 m_worst) (h_worst_weights : HasL P w K mg base "worst_weights" ["values", "chances", "share"] 4 m_worst_weights) (h_accepts_weights : HasL P w K mg base "accepts_weights" ["values", "chances", "share", "told", "value"] 6 m_accepts_weights) (h_Ltotal : HasL P w K mg base "_law_total" ["rows"] 3 m_Ltotal) (h_Lless : HasL P w K mg base "_law_less" ["one", "other"] 1 m_Lless) (h_Lover : HasL P w K mg base "_law_over" ["one", "other"] 2 m_Lover) (h_Ladd : HasL P w K mg base "_law_add" ["one", "other"] 2 m_Ladd) (h_Lleast : HasL P w K mg base "_law_least" ["rows"] 2 m_Lleast) {f : Addr} {cdv : Value} {A : Around} {outer : List Env} {s : Shared} {H : Hp} {E : XK} (hr0 : Room 6 (A.deeper (envOfC "_law_shares" (defScope (top 56)) s.heap.objs.size f cdv))) :
    OkSs (cxOf CXL P w K mg base N_Lshares "_law_shares" (defScope (top 56)) f cdv A outer s H E) E (defBody (top 56)) b_Lshares :=
  (r_ss (r_set 1 sc_Lshares.nd (r_gc (r_op o_add r_int (r_gc (r_call h_Ltake (hr0.mono (by decide)) pass_0 (r_cons (r_var 0) (r_cons r_int r_nil))))))) (r_ss (r_asg (r_tup (r_cons (r_gc (r_lc [("k", 13)] rfl sc_Lshares.nd (r_irg1 B.range_ (r_var 1)) (fun _ _ _ _ _ => (r_gname 13 sc_Lshares.nd)) (fun _ _ _ _ _ => r_ts0) (fun _ _ _ _ _ => (r_gc (r_call h_Lfraction (hr0.mono (by decide)) pass_0 (r_cons (r_var 0) (r_cons r_int r_nil))))))) (r_cons (r_gc (r_call h_Lchances (hr0.mono (by decide)) pass_0 (r_cons (r_var 0) (r_cons (r_var 1) r_nil)))) r_nil))) (r_gtup (n := 2) rfl (r_gcons (r_gname 2 sc_Lshares.nd) (r_gcons (r_gname 3 sc_Lshares.nd) r_gnil)))) (r_ss (r_set 4 sc_Lshares.nd (r_gc (r_call h_Lpart (hr0.mono (by decide)) pass_0 (r_cons (r_gc (r_op o_add r_int (r_gc (r_call h_Ltake (hr0.mono (by decide)) pass_0 (r_cons (r_var 0) (r_cons r_int r_nil)))))) (r_cons r_int r_nil))))) (r_ss (r_set 5 sc_Lshares.nd (r_gc (r_call h_Lweights (hr0.mono (by decide)) pass_0 (r_cons (r_var 2) (r_cons (r_var 3) (r_cons (r_var 4) r_nil)))))) (r_ss (r_set 6 sc_Lshares.nd (r_gc (r_call h_Ldot (hr0.mono (by decide)) pass_0 (r_cons (r_var 5) (r_cons (r_var 2) r_nil))))) (r_ss (r_if (r_w (r_wor (r_gct (r_tcmp (o_ne (hu65 hr0)) (r_gc (r_call h_sorted_places (hr0.mono (by decide)) pass_0 (r_cons (r_var 2) r_nil))) (r_gc (r_call h_Lplaces (hr0.mono (by decide)) pass_0 (r_cons (r_var 2) r_nil))))) (r_wor (r_gct (r_tcmp (o_ne (hu65 hr0)) (r_gc (r_call h_worst (hr0.mono (by decide)) pass_0 (r_cons (r_var 2) (r_cons (r_var 3) (r_cons (r_var 4) r_nil))))) (r_var 6))) (r_wor1 (r_gct (r_tcmp (o_ne (hu65 hr0)) (r_gc (r_call h_worst_weights (hr0.mono (by decide)) pass_0 (r_cons (r_var 2) (r_cons (r_var 3) (r_cons (r_var 4) r_nil))))) (r_var 5))))))) (r_ss_one (r_ret r_bl)) r_ss_nil) (r_ss (r_if (r_w (r_wor (r_gct (r_tcmp o_isnot (r_gc (r_call h_accepts_weights (hr0.mono (by decide)) pass_0 (r_cons (r_var 2) (r_cons (r_var 3) (r_cons (r_var 4) (r_cons (r_var 6) (r_cons (r_var 5) r_nil))))))) r_bl)) (r_wor1 (r_gct (r_tcmp (o_ne (hu65 hr0)) (r_gc (r_call h_Ltotal (hr0.mono (by decide)) pass_0 (r_cons (r_var 5) r_nil))) (r_tup (r_cons r_int (r_cons r_int r_nil)))))))) (r_ss_one (r_ret r_bl)) r_ss_nil) (r_ss (r_for own_any rfl (r_irg1 B.range_ r_int) (r_gname 7 sc_Lshares.nd) (r_ss (r_set 8 sc_Lshares.nd (r_gc (r_call h_Lchances (hr0.mono (by decide)) pass_0 (r_cons (r_var 0) (r_cons (r_var 1) r_nil))))) (r_ss (r_set 9 sc_Lshares.nd (r_gc (r_cmp (o_eq (hu65 hr0)) (r_gc (r_callB k_len B.len_ (r_cons (r_gc (r_lc [("k", 13)] rfl sc_Lshares.nd (r_irg1 B.range_ (r_var 1)) (fun _ _ _ _ _ => (r_gname 13 sc_Lshares.nd)) (fun _ _ _ _ _ => (r_ts1 (r_tru (r_gc (r_call h_Lless (hr0.mono (by decide)) pass_0 (r_cons (r_gc (r_call h_Lover (hr0.mono (by decide)) pass_0 (r_cons (r_ix (r_var 3) (r_var 13)) (r_cons (r_var 4) r_nil)))) (r_cons (r_ix (r_var 8) (r_var 13)) r_nil))))))) (fun _ _ _ _ _ => (r_var 13)))) r_nil))) r_int))) (r_ss (r_set 10 sc_Lshares.nd (r_gc (r_call h_Ldot (hr0.mono (by decide)) pass_0 (r_cons (r_var 8) (r_cons (r_var 2) r_nil))))) (r_ss (r_if (r_w (r_wor (r_w (r_wand (r_tru (r_var 9)) (r_wand1 (r_tru (r_gc (r_call h_Lless (hr0.mono (by decide)) pass_0 (r_cons (r_var 10) (r_cons (r_var 6) r_nil)))))))) (r_wor1 (r_gct (r_tcmp (o_ne (hu65 hr0)) (r_gc (r_call h_accepts_weights (hr0.mono (by decide)) pass_0 (r_cons (r_var 2) (r_cons (r_var 3) (r_cons (r_var 4) (r_cons (r_var 6) (r_cons (r_var 8) r_nil))))))) (r_and (r_var 9) (r_one (r_cmp (o_eq (hu65 hr0)) (r_var 10) (r_var 6))))))))) (r_ss_one (r_ret r_bl)) r_ss_nil) (r_ss_one (r_if (r_gct (r_tcmp (o_ne (hu65 hr0)) (r_gc (r_call h_accepts_weights (hr0.mono (by decide)) pass_0 (r_cons (r_var 2) (r_cons (r_var 3) (r_cons (r_var 4) (r_cons (r_var 10) (r_cons (r_var 8) r_nil))))))) (r_var 9))) (r_ss_one (r_ret r_bl)) r_ss_nil))))))) (r_ss (r_set 11 sc_Lshares.nd (r_lst (r_cons r_non (r_cons (r_gc (r_callTy k_list B.list_ (r_cons (r_var 5) r_nil))) (r_cons (r_slice (r_var 5) r_no (r_so (r_neg r_int))) (r_cons (r_op o_add (r_var 5) (r_tup (r_cons (r_tup (r_cons r_int (r_cons r_int r_nil))) r_nil))) (r_cons (r_gc (r_op o_add (r_tup (r_cons (r_gc (r_call h_Ladd (hr0.mono (by decide)) pass_0 (r_cons (r_ix (r_var 5) r_int) (r_cons (r_tup (r_cons r_int (r_cons r_int r_nil))) r_nil)))) r_nil)) (r_slice (r_var 5) (r_so r_int) r_no))) r_nil))))))) (r_ss (r_if (r_gct (r_tcmp (o_ne (hu65 hr0)) (r_gc (r_lc [("value", 14)] rfl sc_Lshares.nd (r_iseq (r_var 11)) (fun _ _ _ _ _ => (r_gname 14 sc_Lshares.nd)) (fun _ _ _ _ _ => r_ts0) (fun _ _ _ _ _ => (r_gc (r_call h_accepts_weights (hr0.mono (by decide)) pass_0 (r_cons (r_var 2) (r_cons (r_var 3) (r_cons (r_var 4) (r_cons (r_var 6) (r_cons (r_var 14) r_nil)))))))))) (r_gc (r_op o_mul (r_lst (r_cons r_bl r_nil)) r_int)))) (r_ss_one (r_ret r_bl)) r_ss_nil) (r_ss (r_set 12 sc_Lshares.nd (r_gc (r_call h_Lpart (hr0.mono (by decide)) pass_0 (r_cons r_int (r_cons r_int r_nil))))) (r_ss (r_if (r_w (r_wor (r_gct (r_tcmp (o_ne (hu65 hr0)) (r_gc (r_call h_worst (hr0.mono (by decide)) pass_0 (r_cons (r_var 2) (r_cons (r_var 3) (r_cons (r_tup (r_cons r_int (r_cons r_int r_nil))) r_nil))))) (r_gc (r_call h_Ldot (hr0.mono (by decide)) pass_0 (r_cons (r_var 3) (r_cons (r_var 2) r_nil)))))) (r_wor1 (r_gct (r_tcmp (o_ne (hu65 hr0)) (r_gc (r_call h_worst (hr0.mono (by decide)) pass_0 (r_cons (r_var 2) (r_cons (r_var 3) (r_cons (r_var 12) r_nil))))) (r_gc (r_call h_Lleast (hr0.mono (by decide)) pass_0 (r_cons (r_var 2) r_nil)))))))) (r_ss_one (r_ret r_bl)) r_ss_nil) (r_ss_one (r_ret (r_not (r_gc (r_call h_Lless (hr0.mono (by decide)) pass_0 (r_cons (r_gc (r_call h_Ldot (hr0.mono (by decide)) pass_0 (r_cons (r_var 3) (r_cons (r_var 2) r_nil)))) (r_cons (r_var 6) r_nil)))))))))))))))))))
theorem has_Lshares (B : Bi mg) (h_Ltake : HasL P w K mg base "_law_take" ["state", "most"] 1 m_Ltake) (h_Lfraction : HasL P w K mg base "_law_fraction" ["state", "most"] 2 m_Lfraction) (h_Lchances : HasL P w K mg base "_law_chances" ["state", "many"] 2 m_Lchances) (h_Lpart : HasL P w K mg base "_law_part" ["upper", "lower"] 1 m_Lpart) (h_Lweights : HasL P w K mg base "_law_weights" ["values", "chances_told", "share"] 3 m_Lweights) (h_Ldot : HasL P w K mg base "_law_dot" ["one", "other"] 4 m_Ldot) (h_sorted_places : HasL P w K mg base "sorted_places" ["values"] 2 m_sorted_places) (h_Lplaces : HasL P w K mg base "_law_places" ["values"] 2 m_Lplaces) (h_worst : HasL P w K mg base "worst" ["values", "chances", "share"] 4 m_worst) (h_worst_weights : HasL P w K mg base "worst_weights" ["values", "chances", "share"] 4 m_worst_weights) (h_accepts_weights : HasL P w K mg base "accepts_weights" ["values", "chances", "share", "told", "value"] 6 m_accepts_weights) (h_Ltotal : HasL P w K mg base "_law_total" ["rows"] 3 m_Ltotal) (h_Lless : HasL P w K mg base "_law_less" ["one", "other"] 1 m_Lless) (h_Lover : HasL P w K mg base "_law_over" ["one", "other"] 2 m_Lover) (h_Ladd : HasL P w K mg base "_law_add" ["one", "other"] 2 m_Ladd) (h_Lleast : HasL P w K mg base "_law_least" ["rows"] 2 m_Lleast) (l : Lk K mg "_law_shares" (top 56) ["state"]) : HasL P w K mg base "_law_shares" ["state"] 7 m_Lshares := by
  obtain ⟨f, fd, g, F, b⟩ := l
  exact has_of g F b sc_Lshares b_Lshares fun cdv A outer s H E hr => ok_Lshares B h_Ltake h_Lfraction h_Lchances h_Lpart h_Lweights h_Ldot h_sorted_places h_Lplaces h_worst h_worst_weights h_accepts_weights h_Ltotal h_Lless h_Lover h_Ladd h_Lleast hr
/-! ### _law_costs_told -/
abbrev N_Lcosts_told : List Str := ["tree", "told", "share", "row", "kids", "due", "most_told", "node", "gone", "k"]
theorem sc_Lcosts_told : FnScope N_Lcosts_told ["tree", "told", "share", "row", "kids"] (defScope (top 58)) := ⟨rfl, rfl, rfl, by decide +kernel, rfl, by decide +kernel, by decide +kernel⟩
noncomputable def b_Lcosts_told : FS :=
  (fSeq (fAsg (fTup (fCons (fGc (fCB cList (fCons (fVar 3) fNil))) (fCons (fGc (fCB cList (fCons (fVar 3) fNil))) fNil))) (gTp 2 (gsCons (gNm 5) (gsCons (gNm 6) gsNil)))) (fSeq (fFor (iRgN (fOp dSub (fCB cLen (fCons (fVar 3) fNil)) (fC (.int 1))) (fNeg (fC (.int 1))) (fNeg (fC (.int 1)))) (gNm 7) (fIf (fGcT (fTst (fOp dNe (fOp dIx (fVar 4) (fVar 7)) (fLst fNil)))) (fSeq (fSet 8 (fGc (fLc [9] (iSeq (fOp dIx (fVar 4) (fVar 7))) (gNm 9) fYes (fGc (fCall 1 m_Lneg (fCons (fOp dIx (fVar 5) (fVar 9)) fNil)))))) (fSeq (fAsg (fGc (fCall 2 m_Ladd (fCons (fOp dIx (fVar 3) (fVar 7)) (fCons (fGc (fCall 1 m_Lneg (fCons (fGc (fCall 2 m_Ldot (fCons (fGc (fCall 3 m_Lweights (fCons (fVar 8) (fCons (fOp dIx (fVar 1) (fVar 7)) (fCons (fVar 2) fNil))))) (fCons (fVar 8) fNil)))) fNil))) fNil)))) (gSb (fVar 5) (fVar 7))) (fAsg (fGc (fCall 2 m_Ladd (fCons (fOp dIx (fVar 3) (fVar 7)) (fCons (fGc (fCall 1 m_Lmost (fCons (fGc (fLc [9] (iSeq (fOp dIx (fVar 4) (fVar 7))) (gNm 9) fYes (fOp dIx (fVar 6) (fVar 9)))) fNil))) fNil)))) (gSb (fVar 6) (fVar 7))))) fNx)) (fSeq (fIf (fOrT (fGcT (fTst (fOp dNe (fGc (fCall 4 m_worst_costs (fCons (fVar 0) (fCons (fVar 1) (fCons (fVar 2) (fCons (fVar 3) fNil)))))) (fVar 5)))) (fGcT (fTst (fOp dNe (fGc (fCall 4 m_worst_cost (fCons (fVar 0) (fCons (fVar 1) (fCons (fVar 2) (fCons (fVar 3) fNil)))))) (fOp dIx (fVar 5) (fC (.int 0))))))) (fRet (fC (.bl false))) fNx) (fSeq (fIf (fOrT (fGcT (fTst (fOp dNe (fGc (fCall 2 m_greatest_cost (fCons (fVar 0) (fCons (fVar 3) fNil)))) (fOp dIx (fVar 6) (fC (.int 0)))))) (fGcT (fTst (fOp dNe (fGc (fLc [9] (iRg1 (fCB cLen (fCons (fVar 3) fNil))) (gNm 9) fYes (fGc (fCall 3 (m_greatest_from 24) (fCons (fVar 0) (fCons (fVar 3) (fCons (fVar 9) fNil))))))) (fVar 6))))) (fRet (fC (.bl false))) fNx) (fSeq (fIf (fOrT (fGcT (fTst (fOp dNe (fGc (fCall 4 m_worst_cost (fCons (fVar 0) (fCons (fVar 1) (fCons (fTup (fCons (fC (.int 1)) (fCons (fC (.int 1)) fNil))) (fCons (fVar 3) fNil)))))) (fGc (fCall 3 m_mean (fCons (fVar 0) (fCons (fVar 1) (fCons (fVar 3) fNil)))))))) (fGcT (fTst (fOp dNe (fGc (fCall 4 m_worst_cost (fCons (fVar 0) (fCons (fVar 1) (fCons (fTup (fCons (fC (.int 1)) (fCons (fC (.int 100)) fNil))) (fCons (fVar 3) fNil)))))) (fOp dIx (fVar 6) (fC (.int 0))))))) (fRet (fC (.bl false))) fNx) (fRet (fAndV (fNotV (fGc (fCall 2 m_Lless (fCons (fOp dIx (fVar 5) (fC (.int 0))) (fCons (fGc (fCall 3 m_mean (fCons (fVar 0) (fCons (fVar 1) (fCons (fVar 3) fNil))))) fNil))))) (fNotV (fGc (fCall 2 m_Lless (fCons (fOp dIx (fVar 6) (fC (.int 0))) (fCons (fOp dIx (fVar 5) (fC (.int 0))) fNil))))))))))))
noncomputable def m_Lcosts_told : DCl := mOf 10 b_Lcosts_told
theorem ok_Lcosts_told (B : Bi mg) (h_Lneg : HasL P w K mg base "_law_neg" ["one"] 1 m_Lneg) (h_Ladd : HasL P w K mg base "_law_add" ["one", "other"] 2 m_Ladd) (h_Ldot : HasL P w K mg base "_law_dot" ["one", "other"] 4 m_Ldot) (h_Lweights : HasL P w K mg base "_law_weights" ["values", "chances_told", "share"] 3 m_Lweights) (h_Lmost : HasL P w K mg base "_law_most" ["rows"] 2 m_Lmost) (h_worst_costs : HasL P w K mg base "worst_costs" ["tree", "chances", "share", "row"] 5 m_worst_costs) (h_worst_cost : HasL P w K mg base "worst_cost" ["tree", "chances", "share", "row"] 6 m_worst_cost) (h_greatest_cost : HasL P w K mg base "greatest_cost" ["tree", "row"] 29 m_greatest_cost) (h_greatest_from : HasL P w K mg base "greatest_from" ["tree", "row", "node"] 28 (m_greatest_from 24)) (h_mean : HasL P w K mg base "mean" ["tree", "chances", "row"] 5 m_mean) (h_Lless : HasL P w K mg base "_law_less" ["one", "other"] 1 m_Lless) {f : Addr} {cdv : Value} {A : Around} {outer : List Env} {s : Shared} {H : Hp} {E : XK} (hr0 : Room 29 (A.deeper (envOfC "_law_costs_told" (defScope (top 58)) s.heap.objs.size f cdv))) :
    OkSs (cxOf CXL P w K mg base N_Lcosts_told "_law_costs_told" (defScope (top 58)) f cdv A outer s H E) E (defBody (top 58)) b_Lcosts_told :=
  (r_ss (r_asg (r_tup (r_cons (r_gc (r_callTy k_list B.list_ (r_cons (r_var 3) r_nil))) (r_cons (r_gc (r_callTy k_list B.list_ (r_cons (r_var 3) r_nil))) r_nil))) (r_gtup (n := 2) rfl (r_gcons (r_gname 5 sc_Lcosts_told.nd) (r_gcons (r_gname 6 sc_Lcosts_told.nd) r_gnil)))) (r_ss (r_for own_any rfl (r_irgn B.range_ (r_op o_sub (r_callB k_len B.len_ (r_cons (r_var 3) r_nil)) r_int) (r_neg r_int) (r_neg r_int)) (r_gname 7 sc_Lcosts_told.nd) (r_ss_one (r_if (r_gct (r_tcmp (o_ne (hu65 hr0)) (r_ix (r_var 4) (r_var 7)) (r_lst r_nil))) (r_ss (r_setLc 8 [("k", 9)] rfl sc_Lcosts_told.nd (r_iseq (r_ix (r_var 4) (r_var 7))) (fun _ _ _ _ _ => (r_gname 9 sc_Lcosts_told.nd)) (fun _ _ _ _ _ => r_ts0) (fun _ _ _ _ _ => (r_gc (r_call h_Lneg (hr0.mono (by decide)) pass_0 (r_cons (r_ix (r_var 5) (r_var 9)) r_nil))))) (r_ss (r_asg (r_gc (r_call h_Ladd (hr0.mono (by decide)) pass_0 (r_cons (r_ix (r_var 3) (r_var 7)) (r_cons (r_gc (r_call h_Lneg (hr0.mono (by decide)) pass_0 (r_cons (r_gc (r_call h_Ldot (hr0.mono (by decide)) pass_0 (r_cons (r_gc (r_call h_Lweights (hr0.mono (by decide)) pass_0 (r_cons (r_var 8) (r_cons (r_ix (r_var 1) (r_var 7)) (r_cons (r_var 2) r_nil))))) (r_cons (r_var 8) r_nil)))) r_nil))) r_nil)))) (r_gsub (r_var 5) (r_var 7))) (r_ss_one (r_asg (r_gc (r_call h_Ladd (hr0.mono (by decide)) pass_0 (r_cons (r_ix (r_var 3) (r_var 7)) (r_cons (r_gc (r_call h_Lmost (hr0.mono (by decide)) pass_0 (r_cons (r_gc (r_lc [("k", 9)] rfl sc_Lcosts_told.nd (r_iseq (r_ix (r_var 4) (r_var 7))) (fun _ _ _ _ _ => (r_gname 9 sc_Lcosts_told.nd)) (fun _ _ _ _ _ => r_ts0) (fun _ _ _ _ _ => (r_ix (r_var 6) (r_var 9))))) r_nil))) r_nil)))) (r_gsub (r_var 6) (r_var 7)))))) r_ss_nil))) (r_ss (r_if (r_w (r_wor (r_gct (r_tcmp (o_ne (hu65 hr0)) (r_gc (r_call h_worst_costs (hr0.mono (by decide)) pass_0 (r_cons (r_var 0) (r_cons (r_var 1) (r_cons (r_var 2) (r_cons (r_var 3) r_nil)))))) (r_var 5))) (r_wor1 (r_gct (r_tcmp (o_ne (hu65 hr0)) (r_gc (r_call h_worst_cost (hr0.mono (by decide)) pass_0 (r_cons (r_var 0) (r_cons (r_var 1) (r_cons (r_var 2) (r_cons (r_var 3) r_nil)))))) (r_ix (r_var 5) r_int)))))) (r_ss_one (r_ret r_bl)) r_ss_nil) (r_ss (r_if (r_w (r_wor (r_gct (r_tcmp (o_ne (hu65 hr0)) (r_gc (r_call h_greatest_cost (hr0.mono (by decide)) pass_0 (r_cons (r_var 0) (r_cons (r_var 3) r_nil)))) (r_ix (r_var 6) r_int))) (r_wor1 (r_gct (r_tcmp (o_ne (hu65 hr0)) (r_gc (r_lc [("k", 9)] rfl sc_Lcosts_told.nd (r_irg1 B.range_ (r_callB k_len B.len_ (r_cons (r_var 3) r_nil))) (fun _ _ _ _ _ => (r_gname 9 sc_Lcosts_told.nd)) (fun _ _ _ _ _ => r_ts0) (fun _ _ _ _ _ => (r_gc (r_call h_greatest_from (hr0.mono (by decide)) pass_0 (r_cons (r_var 0) (r_cons (r_var 3) (r_cons (r_var 9) r_nil)))))))) (r_var 6)))))) (r_ss_one (r_ret r_bl)) r_ss_nil) (r_ss (r_if (r_w (r_wor (r_gct (r_tcmp (o_ne (hu65 hr0)) (r_gc (r_call h_worst_cost (hr0.mono (by decide)) pass_0 (r_cons (r_var 0) (r_cons (r_var 1) (r_cons (r_tup (r_cons r_int (r_cons r_int r_nil))) (r_cons (r_var 3) r_nil)))))) (r_gc (r_call h_mean (hr0.mono (by decide)) pass_0 (r_cons (r_var 0) (r_cons (r_var 1) (r_cons (r_var 3) r_nil))))))) (r_wor1 (r_gct (r_tcmp (o_ne (hu65 hr0)) (r_gc (r_call h_worst_cost (hr0.mono (by decide)) pass_0 (r_cons (r_var 0) (r_cons (r_var 1) (r_cons (r_tup (r_cons r_int (r_cons r_int r_nil))) (r_cons (r_var 3) r_nil)))))) (r_ix (r_var 6) r_int)))))) (r_ss_one (r_ret r_bl)) r_ss_nil) (r_ss_one (r_ret (r_and (r_not (r_gc (r_call h_Lless (hr0.mono (by decide)) pass_0 (r_cons (r_ix (r_var 5) r_int) (r_cons (r_gc (r_call h_mean (hr0.mono (by decide)) pass_0 (r_cons (r_var 0) (r_cons (r_var 1) (r_cons (r_var 3) r_nil))))) r_nil))))) (r_one (r_not (r_gc (r_call h_Lless (hr0.mono (by decide)) pass_0 (r_cons (r_ix (r_var 6) r_int) (r_cons (r_ix (r_var 5) r_int) r_nil))))))))))))))
theorem has_Lcosts_told (B : Bi mg) (h_Lneg : HasL P w K mg base "_law_neg" ["one"] 1 m_Lneg) (h_Ladd : HasL P w K mg base "_law_add" ["one", "other"] 2 m_Ladd) (h_Ldot : HasL P w K mg base "_law_dot" ["one", "other"] 4 m_Ldot) (h_Lweights : HasL P w K mg base "_law_weights" ["values", "chances_told", "share"] 3 m_Lweights) (h_Lmost : HasL P w K mg base "_law_most" ["rows"] 2 m_Lmost) (h_worst_costs : HasL P w K mg base "worst_costs" ["tree", "chances", "share", "row"] 5 m_worst_costs) (h_worst_cost : HasL P w K mg base "worst_cost" ["tree", "chances", "share", "row"] 6 m_worst_cost) (h_greatest_cost : HasL P w K mg base "greatest_cost" ["tree", "row"] 29 m_greatest_cost) (h_greatest_from : HasL P w K mg base "greatest_from" ["tree", "row", "node"] 28 (m_greatest_from 24)) (h_mean : HasL P w K mg base "mean" ["tree", "chances", "row"] 5 m_mean) (h_Lless : HasL P w K mg base "_law_less" ["one", "other"] 1 m_Lless) (l : Lk K mg "_law_costs_told" (top 58) ["tree", "told", "share", "row", "kids"]) : HasL P w K mg base "_law_costs_told" ["tree", "told", "share", "row", "kids"] 30 m_Lcosts_told := by
  obtain ⟨f, fd, g, F, b⟩ := l
  exact has_of g F b sc_Lcosts_told b_Lcosts_told fun cdv A outer s H E hr => ok_Lcosts_told B h_Lneg h_Ladd h_Ldot h_Lweights h_Lmost h_worst_costs h_worst_cost h_greatest_cost h_greatest_from h_mean h_Lless hr
/-! ### _law_tilted -/
abbrev N_Ltilted : List Str := ["state", "tree", "told", "kids", "other", "due", "row", "k", "j"]
theorem sc_Ltilted : FnScope N_Ltilted ["state", "tree", "told", "kids"] (defScope (top 59)) := ⟨rfl, rfl, rfl, by decide +kernel, rfl, by decide +kernel, by decide +kernel⟩
noncomputable def b_Ltilted : FS :=
  (fSeq (fSet 4 (fGc (fCB cTup (fCons (fGc (fLc [6] (iSeq (fVar 3)) (gNm 6) fYes (fIfE (fGcT (fTst (fOp dNe (fVar 6) (fLst fNil)))) (fGc (fCall 2 m_Lchances (fCons (fVar 0) (fCons (fCB cLen (fCons (fVar 6) fNil)) fNil)))) (fTup fNil)))) fNil)))) (fSeq (fSet 5 (fGc (fCB cTup (fCons (fGc (fLc [7] (iRg1 (fCB cLen (fCons (fVar 2) fNil))) (gNm 7) fYes (fGc (fCB cTup (fCons (fGc (fLc [8] (iRg1 (fCB cLen (fCons (fOp dIx (fVar 2) (fVar 7)) fNil))) (gNm 8) fYes (fGc (fCall 2 m_Lover (fCons (fOp dIx (fOp dIx (fVar 4) (fVar 7)) (fVar 8)) (fCons (fOp dIx (fOp dIx (fVar 2) (fVar 7)) (fVar 8)) fNil)))))) fNil))))) fNil)))) (fRet (fGc (fOp dEq (fGc (fCall 3 m_tilted (fCons (fVar 1) (fCons (fVar 2) (fCons (fVar 4) fNil))))) (fVar 5))))))
noncomputable def m_Ltilted : DCl := mOf 9 b_Ltilted
theorem ok_Ltilted (B : Bi mg) (h_Lchances : HasL P w K mg base "_law_chances" ["state", "many"] 2 m_Lchances) (h_Lover : HasL P w K mg base "_law_over" ["one", "other"] 2 m_Lover) (h_tilted : HasL P w K mg base "tilted" ["tree", "chances", "weights"] 4 m_tilted) {f : Addr} {cdv : Value} {A : Around} {outer : List Env} {s : Shared} {H : Hp} {E : XK} (hr0 : Room 4 (A.deeper (envOfC "_law_tilted" (defScope (top 59)) s.heap.objs.size f cdv))) :
    OkSs (cxOf CXL P w K mg base N_Ltilted "_law_tilted" (defScope (top 59)) f cdv A outer s H E) E (defBody (top 59)) b_Ltilted :=
  (r_ss (r_set 4 sc_Ltilted.nd (r_gc (r_callTy k_tuple B.tuple_ (r_cons (r_gc (r_lc [("row", 6)] rfl sc_Ltilted.nd (r_iseq (r_var 3)) (fun _ _ _ _ _ => (r_gname 6 sc_Ltilted.nd)) (fun _ _ _ _ _ => r_ts0) (fun _ _ _ _ _ => (r_ifE (r_gct (r_tcmp (o_ne (hu65 hr0)) (r_var 6) (r_lst r_nil))) (r_gc (r_call h_Lchances (hr0.mono (by decide)) pass_0 (r_cons (r_var 0) (r_cons (r_callB k_len B.len_ (r_cons (r_var 6) r_nil)) r_nil)))) (r_tup r_nil))))) r_nil)))) (r_ss (r_set 5 sc_Ltilted.nd (r_gc (r_callTy k_tuple B.tuple_ (r_cons (r_gc (r_lc [("k", 7)] rfl sc_Ltilted.nd (r_irg1 B.range_ (r_callB k_len B.len_ (r_cons (r_var 2) r_nil))) (fun _ _ _ _ _ => (r_gname 7 sc_Ltilted.nd)) (fun _ _ _ _ _ => r_ts0) (fun _ _ _ _ _ => (r_gc (r_callTy k_tuple B.tuple_ (r_cons (r_gc (r_lc [("j", 8)] rfl sc_Ltilted.nd (r_irg1 B.range_ (r_callB k_len B.len_ (r_cons (r_ix (r_var 2) (r_var 7)) r_nil))) (fun _ _ _ _ _ => (r_gname 8 sc_Ltilted.nd)) (fun _ _ _ _ _ => r_ts0) (fun _ _ _ _ _ => (r_gc (r_call h_Lover (hr0.mono (by decide)) pass_0 (r_cons (r_ix (r_ix (r_var 4) (r_var 7)) (r_var 8)) (r_cons (r_ix (r_ix (r_var 2) (r_var 7)) (r_var 8)) r_nil))))))) r_nil)))))) r_nil)))) (r_ss_one (r_ret (r_gc (r_cmp (o_eq (hu65 hr0)) (r_gc (r_call h_tilted (hr0.mono (by decide)) pass_0 (r_cons (r_var 1) (r_cons (r_var 2) (r_cons (r_var 4) r_nil))))) (r_var 5)))))))
theorem has_Ltilted (B : Bi mg) (h_Lchances : HasL P w K mg base "_law_chances" ["state", "many"] 2 m_Lchances) (h_Lover : HasL P w K mg base "_law_over" ["one", "other"] 2 m_Lover) (h_tilted : HasL P w K mg base "tilted" ["tree", "chances", "weights"] 4 m_tilted) (l : Lk K mg "_law_tilted" (top 59) ["state", "tree", "told", "kids"]) : HasL P w K mg base "_law_tilted" ["state", "tree", "told", "kids"] 5 m_Ltilted := by
  obtain ⟨f, fd, g, F, b⟩ := l
  exact has_of g F b sc_Ltilted b_Ltilted fun cdv A outer s H E hr => ok_Ltilted B h_Lchances h_Lover h_tilted hr
/-! ### _law_trees -/
abbrev N_Ltrees : List Str := ["state", "tree", "size", "row", "kids", "told", "weights", "k", "behind", "alike", "bent", "lasts_told", "share", "j", "value"]
theorem sc_Ltrees : FnScope N_Ltrees ["state"] (defScope (top 57)) := ⟨rfl, rfl, rfl, by decide +kernel, rfl, by decide +kernel, by decide +kernel⟩
noncomputable def b_Ltrees : FS :=
  (fSeq (fSet 1 (fGc (fCall 3 m_Ltree (fCons (fVar 0) (fCons (fGc (fOp dAdd (fC (.int 1)) (fGc (fCall 2 m_Ltake (fCons (fVar 0) (fCons (fC (.int 3)) fNil)))))) (fCons (fC (.int 3)) fNil)))))) (fSeq (fPar 2 3 (fCons (fCB cLen (fCons (fOp dIx (fVar 1) (fC (.int 2))) fNil)) (fCons (fGc (fCall 2 m_Lrow (fCons (fVar 0) (fCons (fVar 1) fNil)))) fNil))) (fSeq (fSet 4 (fGc (fLc [7] (iRg1 (fVar 2)) (gNm 7) fYes (fGc (fCall 2 m_Lkids (fCons (fVar 1) (fCons (fVar 7) fNil))))))) (fSeq (fSet 5 (fGc (fCB cTup (fCons (fGc (fLc [7] (iRg1 (fVar 2)) (gNm 7) fYes (fIfE (fGcT (fTst (fOp dNe (fOp dIx (fVar 4) (fVar 7)) (fLst fNil)))) (fGc (fCall 2 m_Lchances (fCons (fVar 0) (fCons (fCB cLen (fCons (fOp dIx (fVar 4) (fVar 7)) fNil)) fNil)))) (fTup fNil)))) fNil)))) (fSeq (fSet 6 (fGc (fOp dMul (fLst (fCons (fTup (fCons (fC (.int 1)) (fCons (fC (.int 1)) fNil))) fNil)) (fVar 2)))) (fSeq (fFor (iRg2 (fC (.int 1)) (fVar 2)) (gNm 7) (fSeq (fSet 8 (fOp dIx (fOp dIx (fOp dIx (fVar 1) (fC (.int 2))) (fVar 7)) (fC (.int 0)))) (fAsg (fGc (fCall 2 m_Lmul (fCons (fOp dIx (fVar 6) (fVar 8)) (fCons (fOp dIx (fOp dIx (fVar 5) (fVar 8)) (fMt mIndex (fOp dIx (fVar 4) (fVar 8)) (fCons (fVar 7) fNil))) fNil)))) (gSb (fVar 6) (fVar 7))))) (fSeq (fIf (fOrT (fGcT (fTst (fOp dIsNot (fGc (fCall 2 m_are_chances (fCons (fVar 1) (fCons (fVar 5) fNil)))) (fC (.bl true))))) (fOrT (fGcT (fTst (fOp dNe (fGc (fLc [7] (iRg1 (fVar 2)) (gNm 7) fYes (fGc (fCall 3 m_chance (fCons (fVar 1) (fCons (fVar 5) (fCons (fVar 7) fNil))))))) (fVar 6)))) (fGcT (fTst (fOp dNe (fGc (fCall 3 m_mean (fCons (fVar 1) (fCons (fVar 5) (fCons (fVar 3) fNil))))) (fGc (fCall 2 m_Ldot (fCons (fVar 6) (fCons (fVar 3) fNil))))))))) (fRet (fC (.bl false))) fNx) (fSeq (fSet 9 (fGc (fCB cTup (fCons (fGc (fLc [7] (iRg1 (fVar 2)) (gNm 7) fYes (fGc (fCB cTup (fCons (fGc (fLc [13] (iSeq (fOp dIx (fVar 4) (fVar 7))) (gNm 13) fYes (fGc (fCall 2 m_Lpart (fCons (fC (.int 1)) (fCons (fCB cLen (fCons (fOp dIx (fVar 4) (fVar 7)) fNil)) fNil)))))) fNil))))) fNil)))) (fSeq (fIf (fOrT (fGcT (fTst (fOp dNe (fGc (fCall 1 m_even (fCons (fVar 1) fNil))) (fVar 9)))) (fGcT (fTst (fOp dIsNot (fGc (fCall 2 m_are_chances (fCons (fVar 1) (fCons (fVar 9) fNil)))) (fC (.bl true)))))) (fRet (fC (.bl false))) fNx) (fSeq (fSet 10 (fLst (fCons (fC .non) (fCons (fGc (fCB cList (fCons (fVar 5) fNil))) (fCons (fSl (fVar 5) fNo (fSo (fNeg (fC (.int 1))))) (fCons (fGc (fOp dAdd (fTup (fCons (fTup fNil) fNil)) (fSl (fVar 5) (fSo (fC (.int 1))) fNo))) (fCons (fGc (fOp dAdd (fSl (fVar 5) fNo (fSo (fNeg (fC (.int 1))))) (fTup (fCons (fTup (fCons (fTup (fCons (fC (.int 1)) (fCons (fC (.int 1)) fNil))) fNil)) fNil)))) (fCons (fGc (fOp dAdd (fTup (fCons (fGc (fCB cTup (fCons (fGc (fLc [13] (iSeq (fOp dIx (fVar 5) (fC (.int 0)))) (gNm 13) fYes (fTup (fCons (fC (.int 0)) (fCons (fC (.int 1)) fNil))))) fNil))) fNil)) (fSl (fVar 5) (fSo (fC (.int 1))) fNo))) (fCons (fGc (fOp dAdd (fTup (fCons (fOp dAdd (fOp dIx (fVar 5) (fC (.int 0))) (fTup (fCons (fTup (fCons (fC (.int 1)) (fCons (fC (.int 1)) fNil))) fNil))) fNil)) (fSl (fVar 5) (fSo (fC (.int 1))) fNo))) fNil))))))))) (fSeq (fIf (fGcT (fTst (fOp dNe (fGc (fLc [14] (iSeq (fVar 10)) (gNm 14) fYes (fGc (fCall 2 m_are_chances (fCons (fVar 1) (fCons (fVar 14) fNil)))))) (fGc (fOp dMul (fLst (fCons (fC (.bl false)) fNil)) (fC (.int 7))))))) (fRet (fC (.bl false))) fNx) (fSeq (fSet 11 (fGc (fLc [7] (iRg1 (fVar 2)) (gNm 7) (fGcT (fTst (fOp dEq (fOp dIx (fVar 4) (fVar 7)) (fLst fNil)))) (fVar 7)))) (fSeq (fIf (fOrT (fGcT (fTst (fOp dNe (fGc (fCall 3 m_share_of (fCons (fVar 1) (fCons (fVar 5) (fCons (fVar 11) fNil))))) (fTup (fCons (fC (.int 1)) (fCons (fC (.int 1)) fNil)))))) (fGcT (fTst (fOp dNe (fGc (fCall 3 m_share_of (fCons (fVar 1) (fCons (fVar 5) (fCons (fSl (fVar 11) fNo (fSo (fC (.int 1)))) fNil))))) (fOp dIx (fVar 6) (fOp dIx (fVar 11) (fC (.int 0)))))))) (fRet (fC (.bl false))) fNx) (fSeq (fSet 12 (fGc (fCall 2 m_Lpart (fCons (fGc (fOp dAdd (fC (.int 1)) (fGc (fCall 2 m_Ltake (fCons (fVar 0) (fCons (fC (.int 6)) fNil)))))) (fCons (fC (.int 6)) fNil))))) (fRet (fAndV (fGc (fCall 5 m_Lcosts_told (fCons (fVar 1) (fCons (fVar 5) (fCons (fVar 12) (fCons (fVar 3) (fCons (fVar 4) fNil))))))) (fGc (fCall 4 m_Ltilted (fCons (fVar 0) (fCons (fVar 1) (fCons (fVar 5) (fCons (fVar 4) fNil))))))))))))))))))))))
noncomputable def m_Ltrees : DCl := mOf 15 b_Ltrees
theorem ok_Ltrees (B : Bi mg) (h_Ltree : HasL P w K mg base "_law_tree" ["state", "moments", "wide"] 5 m_Ltree) (h_Ltake : HasL P w K mg base "_law_take" ["state", "most"] 1 m_Ltake) (h_Lrow : HasL P w K mg base "_law_row" ["state", "tree"] 3 m_Lrow) (h_Lkids : HasL P w K mg base "_law_kids" ["tree", "node"] 1 m_Lkids) (h_Lchances : HasL P w K mg base "_law_chances" ["state", "many"] 2 m_Lchances) (h_Lmul : HasL P w K mg base "_law_mul" ["one", "other"] 2 m_Lmul) (h_are_chances : HasL P w K mg base "are_chances" ["tree", "value"] 5 m_are_chances) (h_chance : HasL P w K mg base "chance" ["tree", "chances", "node"] 4 m_chance) (h_mean : HasL P w K mg base "mean" ["tree", "chances", "row"] 5 m_mean) (h_Ldot : HasL P w K mg base "_law_dot" ["one", "other"] 4 m_Ldot) (h_Lpart : HasL P w K mg base "_law_part" ["upper", "lower"] 1 m_Lpart) (h_even : HasL P w K mg base "even" ["tree"] 2 m_even) (h_share_of : HasL P w K mg base "share_of" ["tree", "chances", "nodes"] 5 m_share_of) (h_Lcosts_told : HasL P w K mg base "_law_costs_told" ["tree", "told", "share", "row", "kids"] 30 m_Lcosts_told) (h_Ltilted : HasL P w K mg base "_law_tilted" ["state", "tree", "told", "kids"] 5 m_Ltilted) {f : Addr} {cdv : Value} {A : Around} {outer : List Env} {s : Shared} {H : Hp} {E : XK} (hr0 : Room 30 (A.deeper (envOfC "_law_trees" (defScope (top 57)) s.heap.objs.size f cdv))) :
    OkSs (cxOf CXL P w K mg base N_Ltrees "_law_trees" (defScope (top 57)) f cdv A outer s H E) E (defBody (top 57)) b_Ltrees :=
  (r_ss (r_set 1 sc_Ltrees.nd (r_gc (r_call h_Ltree (hr0.mono (by decide)) pass_0 (r_cons (r_var 0) (r_cons (r_gc (r_op o_add r_int (r_gc (r_call h_Ltake (hr0.mono (by decide)) pass_0 (r_cons (r_var 0) (r_cons r_int r_nil)))))) (r_cons r_int r_nil)))))) (r_ss (r_par 2 3 rfl sc_Ltrees.nd (r_cons (r_callB k_len B.len_ (r_cons (r_ix (r_var 1) r_int) r_nil)) (r_cons (r_gc (r_call h_Lrow (hr0.mono (by decide)) pass_0 (r_cons (r_var 0) (r_cons (r_var 1) r_nil)))) r_nil))) (r_ss (r_set 4 sc_Ltrees.nd (r_gc (r_lc [("k", 7)] rfl sc_Ltrees.nd (r_irg1 B.range_ (r_var 2)) (fun _ _ _ _ _ => (r_gname 7 sc_Ltrees.nd)) (fun _ _ _ _ _ => r_ts0) (fun _ _ _ _ _ => (r_gc (r_call h_Lkids (hr0.mono (by decide)) pass_0 (r_cons (r_var 1) (r_cons (r_var 7) r_nil)))))))) (r_ss (r_set 5 sc_Ltrees.nd (r_gc (r_callTy k_tuple B.tuple_ (r_cons (r_gc (r_lc [("k", 7)] rfl sc_Ltrees.nd (r_irg1 B.range_ (r_var 2)) (fun _ _ _ _ _ => (r_gname 7 sc_Ltrees.nd)) (fun _ _ _ _ _ => r_ts0) (fun _ _ _ _ _ => (r_ifE (r_gct (r_tcmp (o_ne (hu65 hr0)) (r_ix (r_var 4) (r_var 7)) (r_lst r_nil))) (r_gc (r_call h_Lchances (hr0.mono (by decide)) pass_0 (r_cons (r_var 0) (r_cons (r_callB k_len B.len_ (r_cons (r_ix (r_var 4) (r_var 7)) r_nil)) r_nil)))) (r_tup r_nil))))) r_nil)))) (r_ss (r_set 6 sc_Ltrees.nd (r_gc (r_op o_mul (r_lst (r_cons (r_tup (r_cons r_int (r_cons r_int r_nil))) r_nil)) (r_var 2)))) (r_ss (r_for own_any rfl (r_irg2 B.range_ r_int (r_var 2)) (r_gname 7 sc_Ltrees.nd) (r_ss (r_set 8 sc_Ltrees.nd (r_ix (r_ix (r_ix (r_var 1) r_int) (r_var 7)) r_int)) (r_ss_one (r_asg (r_gc (r_call h_Lmul (hr0.mono (by decide)) pass_0 (r_cons (r_ix (r_var 6) (r_var 8)) (r_cons (r_ix (r_ix (r_var 5) (r_var 8)) (r_meth PySem.F.slot_list_index PySem.F.type_list_index (m_index (hu65 hr0)) (r_ix (r_var 4) (r_var 8)) (r_cons (r_var 7) r_nil))) r_nil)))) (r_gsub (r_var 6) (r_var 7)))))) (r_ss (r_if (r_w (r_wor (r_gct (r_tcmp o_isnot (r_gc (r_call h_are_chances (hr0.mono (by decide)) pass_0 (r_cons (r_var 1) (r_cons (r_var 5) r_nil)))) r_bl)) (r_wor (r_gct (r_tcmp (o_ne (hu65 hr0)) (r_gc (r_lc [("k", 7)] rfl sc_Ltrees.nd (r_irg1 B.range_ (r_var 2)) (fun _ _ _ _ _ => (r_gname 7 sc_Ltrees.nd)) (fun _ _ _ _ _ => r_ts0) (fun _ _ _ _ _ => (r_gc (r_call h_chance (hr0.mono (by decide)) pass_0 (r_cons (r_var 1) (r_cons (r_var 5) (r_cons (r_var 7) r_nil)))))))) (r_var 6))) (r_wor1 (r_gct (r_tcmp (o_ne (hu65 hr0)) (r_gc (r_call h_mean (hr0.mono (by decide)) pass_0 (r_cons (r_var 1) (r_cons (r_var 5) (r_cons (r_var 3) r_nil))))) (r_gc (r_call h_Ldot (hr0.mono (by decide)) pass_0 (r_cons (r_var 6) (r_cons (r_var 3) r_nil)))))))))) (r_ss_one (r_ret r_bl)) r_ss_nil) (r_ss (r_set 9 sc_Ltrees.nd (r_gc (r_callTy k_tuple B.tuple_ (r_cons (r_gc (r_lc [("k", 7)] rfl sc_Ltrees.nd (r_irg1 B.range_ (r_var 2)) (fun _ _ _ _ _ => (r_gname 7 sc_Ltrees.nd)) (fun _ _ _ _ _ => r_ts0) (fun _ _ _ _ _ => (r_gc (r_callTy k_tuple B.tuple_ (r_cons (r_gc (r_lc [("j", 13)] rfl sc_Ltrees.nd (r_iseq (r_ix (r_var 4) (r_var 7))) (fun _ _ _ _ _ => (r_gname 13 sc_Ltrees.nd)) (fun _ _ _ _ _ => r_ts0) (fun _ _ _ _ _ => (r_gc (r_call h_Lpart (hr0.mono (by decide)) pass_0 (r_cons r_int (r_cons (r_callB k_len B.len_ (r_cons (r_ix (r_var 4) (r_var 7)) r_nil)) r_nil))))))) r_nil)))))) r_nil)))) (r_ss (r_if (r_w (r_wor (r_gct (r_tcmp (o_ne (hu65 hr0)) (r_gc (r_call h_even (hr0.mono (by decide)) pass_0 (r_cons (r_var 1) r_nil))) (r_var 9))) (r_wor1 (r_gct (r_tcmp o_isnot (r_gc (r_call h_are_chances (hr0.mono (by decide)) pass_0 (r_cons (r_var 1) (r_cons (r_var 9) r_nil)))) r_bl))))) (r_ss_one (r_ret r_bl)) r_ss_nil) (r_ss (r_set 10 sc_Ltrees.nd (r_lst (r_cons r_non (r_cons (r_gc (r_callTy k_list B.list_ (r_cons (r_var 5) r_nil))) (r_cons (r_slice (r_var 5) r_no (r_so (r_neg r_int))) (r_cons (r_gc (r_op o_add (r_tup (r_cons (r_tup r_nil) r_nil)) (r_slice (r_var 5) (r_so r_int) r_no))) (r_cons (r_gc (r_op o_add (r_slice (r_var 5) r_no (r_so (r_neg r_int))) (r_tup (r_cons (r_tup (r_cons (r_tup (r_cons r_int (r_cons r_int r_nil))) r_nil)) r_nil)))) (r_cons (r_gc (r_op o_add (r_tup (r_cons (r_gc (r_callTy k_tuple B.tuple_ (r_cons (r_gc (r_lc [("j", 13)] rfl sc_Ltrees.nd (r_iseq (r_ix (r_var 5) r_int)) (fun _ _ _ _ _ => (r_gname 13 sc_Ltrees.nd)) (fun _ _ _ _ _ => r_ts0) (fun _ _ _ _ _ => (r_tup (r_cons r_int (r_cons r_int r_nil)))))) r_nil))) r_nil)) (r_slice (r_var 5) (r_so r_int) r_no))) (r_cons (r_gc (r_op o_add (r_tup (r_cons (r_op o_add (r_ix (r_var 5) r_int) (r_tup (r_cons (r_tup (r_cons r_int (r_cons r_int r_nil))) r_nil))) r_nil)) (r_slice (r_var 5) (r_so r_int) r_no))) r_nil))))))))) (r_ss (r_if (r_gct (r_tcmp (o_ne (hu65 hr0)) (r_gc (r_lc [("value", 14)] rfl sc_Ltrees.nd (r_iseq (r_var 10)) (fun _ _ _ _ _ => (r_gname 14 sc_Ltrees.nd)) (fun _ _ _ _ _ => r_ts0) (fun _ _ _ _ _ => (r_gc (r_call h_are_chances (hr0.mono (by decide)) pass_0 (r_cons (r_var 1) (r_cons (r_var 14) r_nil))))))) (r_gc (r_op o_mul (r_lst (r_cons r_bl r_nil)) r_int)))) (r_ss_one (r_ret r_bl)) r_ss_nil) (r_ss (r_setLc 11 [("k", 7)] rfl sc_Ltrees.nd (r_irg1 B.range_ (r_var 2)) (fun _ _ _ _ _ => (r_gname 7 sc_Ltrees.nd)) (fun _ _ _ _ _ => (r_ts1 (r_gct (r_tcmp (o_eq (hu65 hr0)) (r_ix (r_var 4) (r_var 7)) (r_lst r_nil))))) (fun _ _ _ _ _ => (r_var 7))) (r_ss (r_if (r_w (r_wor (r_gct (r_tcmp (o_ne (hu65 hr0)) (r_gc (r_call h_share_of (hr0.mono (by decide)) pass_0 (r_cons (r_var 1) (r_cons (r_var 5) (r_cons (r_var 11) r_nil))))) (r_tup (r_cons r_int (r_cons r_int r_nil))))) (r_wor1 (r_gct (r_tcmp (o_ne (hu65 hr0)) (r_gc (r_call h_share_of (hr0.mono (by decide)) pass_0 (r_cons (r_var 1) (r_cons (r_var 5) (r_cons (r_slice (r_var 11) r_no (r_so r_int)) r_nil))))) (r_ix (r_var 6) (r_ix (r_var 11) r_int))))))) (r_ss_one (r_ret r_bl)) r_ss_nil) (r_ss (r_set 12 sc_Ltrees.nd (r_gc (r_call h_Lpart (hr0.mono (by decide)) pass_0 (r_cons (r_gc (r_op o_add r_int (r_gc (r_call h_Ltake (hr0.mono (by decide)) pass_0 (r_cons (r_var 0) (r_cons r_int r_nil)))))) (r_cons r_int r_nil))))) (r_ss_one (r_ret (r_and (r_gc (r_call h_Lcosts_told (hr0.mono (by decide)) pass_0 (r_cons (r_var 1) (r_cons (r_var 5) (r_cons (r_var 12) (r_cons (r_var 3) (r_cons (r_var 4) r_nil))))))) (r_one (r_gc (r_call h_Ltilted (hr0.mono (by decide)) pass_0 (r_cons (r_var 0) (r_cons (r_var 1) (r_cons (r_var 5) (r_cons (r_var 4) r_nil))))))))))))))))))))))))
theorem has_Ltrees (B : Bi mg) (h_Ltree : HasL P w K mg base "_law_tree" ["state", "moments", "wide"] 5 m_Ltree) (h_Ltake : HasL P w K mg base "_law_take" ["state", "most"] 1 m_Ltake) (h_Lrow : HasL P w K mg base "_law_row" ["state", "tree"] 3 m_Lrow) (h_Lkids : HasL P w K mg base "_law_kids" ["tree", "node"] 1 m_Lkids) (h_Lchances : HasL P w K mg base "_law_chances" ["state", "many"] 2 m_Lchances) (h_Lmul : HasL P w K mg base "_law_mul" ["one", "other"] 2 m_Lmul) (h_are_chances : HasL P w K mg base "are_chances" ["tree", "value"] 5 m_are_chances) (h_chance : HasL P w K mg base "chance" ["tree", "chances", "node"] 4 m_chance) (h_mean : HasL P w K mg base "mean" ["tree", "chances", "row"] 5 m_mean) (h_Ldot : HasL P w K mg base "_law_dot" ["one", "other"] 4 m_Ldot) (h_Lpart : HasL P w K mg base "_law_part" ["upper", "lower"] 1 m_Lpart) (h_even : HasL P w K mg base "even" ["tree"] 2 m_even) (h_share_of : HasL P w K mg base "share_of" ["tree", "chances", "nodes"] 5 m_share_of) (h_Lcosts_told : HasL P w K mg base "_law_costs_told" ["tree", "told", "share", "row", "kids"] 30 m_Lcosts_told) (h_Ltilted : HasL P w K mg base "_law_tilted" ["state", "tree", "told", "kids"] 5 m_Ltilted) (l : Lk K mg "_law_trees" (top 57) ["state"]) : HasL P w K mg base "_law_trees" ["state"] 31 m_Ltrees := by
  obtain ⟨f, fd, g, F, b⟩ := l
  exact has_of g F b sc_Ltrees b_Ltrees fun cdv A outer s H E hr => ok_Ltrees B h_Ltree h_Ltake h_Lrow h_Lkids h_Lchances h_Lmul h_are_chances h_chance h_mean h_Ldot h_Lpart h_even h_share_of h_Lcosts_told h_Ltilted hr
/-! ### law -/
abbrev N_law : List Str := ["script", "state", "turn"]
theorem sc_law : FnScope N_law ["script"] (defScope (top 60)) := ⟨rfl, rfl, rfl, by decide +kernel, rfl, by decide +kernel, by decide +kernel⟩
noncomputable def b_law : FS :=
  (fSeq (fSet 1 (fGc (fCall 1 m_Lstate (fCons (fVar 0) fNil)))) (fSeq (fFor (iRg1 (fC (.int 3))) (gNm 2) (fIf (fOrT (fNotT (fTru (fGc (fCall 1 m_Lshares (fCons (fVar 1) fNil))))) (fNotT (fTru (fGc (fCall 1 m_Ltrees (fCons (fVar 1) fNil)))))) (fRet (fC (.bl false))) fNx)) (fRet (fC (.bl true)))))
noncomputable def m_law : DCl := mOf 3 b_law
theorem ok_law (B : Bi mg) (h_Lstate : HasL P w K mg base "_law_state" ["script"] 1 m_Lstate) (h_Lshares : HasL P w K mg base "_law_shares" ["state"] 7 m_Lshares) (h_Ltrees : HasL P w K mg base "_law_trees" ["state"] 31 m_Ltrees) {f : Addr} {cdv : Value} {A : Around} {outer : List Env} {s : Shared} {H : Hp} {E : XK} (hr0 : Room 31 (A.deeper (envOfC "law" (defScope (top 60)) s.heap.objs.size f cdv))) :
    OkSs (cxOf CXL P w K mg base N_law "law" (defScope (top 60)) f cdv A outer s H E) E (defBody (top 60)) b_law :=
  (r_ss (r_set 1 sc_law.nd (r_gc (r_call h_Lstate (hr0.mono (by decide)) pass_0 (r_cons (r_var 0) r_nil)))) (r_ss (r_for own_any rfl (r_irg1 B.range_ r_int) (r_gname 2 sc_law.nd) (r_ss_one (r_if (r_w (r_wor (r_tnot (r_tru (r_gc (r_call h_Lshares (hr0.mono (by decide)) pass_0 (r_cons (r_var 1) r_nil))))) (r_wor1 (r_tnot (r_tru (r_gc (r_call h_Ltrees (hr0.mono (by decide)) pass_0 (r_cons (r_var 1) r_nil)))))))) (r_ss_one (r_ret r_bl)) r_ss_nil))) (r_ss_one (r_ret r_bl))))
theorem has_law (B : Bi mg) (h_Lstate : HasL P w K mg base "_law_state" ["script"] 1 m_Lstate) (h_Lshares : HasL P w K mg base "_law_shares" ["state"] 7 m_Lshares) (h_Ltrees : HasL P w K mg base "_law_trees" ["state"] 31 m_Ltrees) (l : Lk K mg "law" (top 60) ["script"]) : HasL P w K mg base "law" ["script"] 32 m_law := by
  obtain ⟨f, fd, g, F, b⟩ := l
  exact has_of g F b sc_law b_law fun cdv A outer s H E hr => ok_law B h_Lstate h_Lshares h_Ltrees hr
theorem has_all (B : Bi mg) (k_ONE : Cst K mg "ONE" c_ONE) (l_divisor : Lk K mg "divisor" (top 1) ["one", "other"]) (l_part : Lk K mg "part" (top 2) ["above", "below"]) (l_is_part : Lk K mg "is_part" (top 3) ["value"]) (l_are_parts : Lk K mg "are_parts" (top 4) ["value", "many"]) (l_plus : Lk K mg "plus" (top 5) ["one", "other"]) (l_minus : Lk K mg "minus" (top 6) ["one", "other"]) (l_times : Lk K mg "times" (top 7) ["one", "other"]) (l_over : Lk K mg "over" (top 8) ["one", "other"]) (l_negative : Lk K mg "negative" (top 9) ["one"]) (l_is_less : Lk K mg "is_less" (top 10) ["one", "other"]) (l_least : Lk K mg "least" (top 11) ["row"]) (l_total : Lk K mg "total" (top 12) ["row"]) (l_dot : Lk K mg "dot" (top 13) ["one", "other"]) (l_ahead : Lk K mg "ahead" (top 15) ["tree", "node"]) (l_is_last : Lk K mg "is_last" (top 16) ["tree", "node"]) (l_are_chances : Lk K mg "are_chances" (top 19) ["tree", "value"]) (l_even : Lk K mg "even" (top 20) ["tree"]) (l_chance : Lk K mg "chance" (top 21) ["tree", "chances", "node"]) (l_mean : Lk K mg "mean" (top 22) ["tree", "chances", "row"]) (l_worst : Lk K mg "worst" (top 23) ["values", "chances", "share"]) (l_sorted_places : Lk K mg "sorted_places" (top 24) ["values"]) (l_worst_weights : Lk K mg "worst_weights" (top 25) ["values", "chances", "share"]) (l_accepts_weights : Lk K mg "accepts_weights" (top 26) ["values", "chances", "share", "told", "value"]) (l_worst_costs : Lk K mg "worst_costs" (top 27) ["tree", "chances", "share", "row"]) (l_worst_cost : Lk K mg "worst_cost" (top 28) ["tree", "chances", "share", "row"]) (l_greatest_cost : Lk K mg "greatest_cost" (top 29) ["tree", "row"]) (l_greatest_from : Lk K mg "greatest_from" (top 30) ["tree", "row", "node"]) (l_tilted : Lk K mg "tilted" (top 31) ["tree", "chances", "weights"]) (l_share_of : Lk K mg "share_of" (top 32) ["tree", "chances", "nodes"]) (l_Lstate : Lk K mg "_law_state" (top 34) ["script"]) (l_Ltake : Lk K mg "_law_take" (top 35) ["state", "most"]) (l_Lpick : Lk K mg "_law_pick" (top 36) ["state", "row"]) (l_Lpart : Lk K mg "_law_part" (top 37) ["upper", "lower"]) (l_Ladd : Lk K mg "_law_add" (top 38) ["one", "other"]) (l_Lmul : Lk K mg "_law_mul" (top 39) ["one", "other"]) (l_Lneg : Lk K mg "_law_neg" (top 40) ["one"]) (l_Lover : Lk K mg "_law_over" (top 41) ["one", "other"]) (l_Lless : Lk K mg "_law_less" (top 42) ["one", "other"]) (l_Ltotal : Lk K mg "_law_total" (top 43) ["rows"]) (l_Ldot : Lk K mg "_law_dot" (top 44) ["one", "other"]) (l_Lmost : Lk K mg "_law_most" (top 45) ["rows"]) (l_Lleast : Lk K mg "_law_least" (top 46) ["rows"]) (l_Lfraction : Lk K mg "_law_fraction" (top 47) ["state", "most"]) (l_Lkids : Lk K mg "_law_kids" (top 48) ["tree", "node"]) (l_Lroad : Lk K mg "_law_road" (top 49) ["tree", "node"]) (l_Lshape : Lk K mg "_law_shape" (top 50) ["state", "moments", "wide"]) (l_Ltree : Lk K mg "_law_tree" (top 51) ["state", "moments", "wide"]) (l_Lrow : Lk K mg "_law_row" (top 52) ["state", "tree"]) (l_Lchances : Lk K mg "_law_chances" (top 53) ["state", "many"]) (l_Lplaces : Lk K mg "_law_places" (top 54) ["values"]) (l_Lweights : Lk K mg "_law_weights" (top 55) ["values", "chances_told", "share"]) (l_Lshares : Lk K mg "_law_shares" (top 56) ["state"]) (l_Ltrees : Lk K mg "_law_trees" (top 57) ["state"]) (l_Lcosts_told : Lk K mg "_law_costs_told" (top 58) ["tree", "told", "share", "row", "kids"]) (l_Ltilted : Lk K mg "_law_tilted" (top 59) ["state", "tree", "told", "kids"]) (l_law : Lk K mg "law" (top 60) ["script"]) : HasL P w K mg base "law" ["script"] 32 m_law := by
  have h_divisor : HasL P w K mg base "divisor" ["one", "other"] 1 m_divisor := has_divisor B l_divisor
  have h_part : HasL P w K mg base "part" ["above", "below"] 2 m_part := has_part B h_divisor l_part
  have h_is_part : HasL P w K mg base "is_part" ["value"] 2 m_is_part := has_is_part B h_divisor l_is_part
  have h_are_parts : HasL P w K mg base "are_parts" ["value", "many"] 3 m_are_parts := has_are_parts B h_is_part l_are_parts
  have h_plus : HasL P w K mg base "plus" ["one", "other"] 3 m_plus := has_plus B h_part l_plus
  have h_minus : HasL P w K mg base "minus" ["one", "other"] 3 m_minus := has_minus B h_part l_minus
  have h_times : HasL P w K mg base "times" ["one", "other"] 3 m_times := has_times B h_part l_times
  have h_over : HasL P w K mg base "over" ["one", "other"] 3 m_over := has_over B h_part l_over
  have h_negative : HasL P w K mg base "negative" ["one"] 1 m_negative := has_negative B l_negative
  have h_is_less : HasL P w K mg base "is_less" ["one", "other"] 1 m_is_less := has_is_less B l_is_less
  have h_least : HasL P w K mg base "least" ["row"] 2 m_least := has_least B h_is_less l_least
  have h_total : HasL P w K mg base "total" ["row"] 4 m_total := has_total B h_plus l_total
  have h_dot : HasL P w K mg base "dot" ["one", "other"] 5 m_dot := has_dot B h_total h_times l_dot
  have h_ahead : HasL P w K mg base "ahead" ["tree", "node"] 1 m_ahead := has_ahead B l_ahead
  have h_is_last : HasL P w K mg base "is_last" ["tree", "node"] 2 m_is_last := has_is_last B h_ahead l_is_last
  have h_are_chances : HasL P w K mg base "are_chances" ["tree", "value"] 5 m_are_chances := has_are_chances B h_are_parts h_ahead h_is_last h_total k_ONE l_are_chances
  have h_even : HasL P w K mg base "even" ["tree"] 2 m_even := has_even B h_ahead l_even
  have h_chance : HasL P w K mg base "chance" ["tree", "chances", "node"] 4 m_chance := has_chance B h_times h_ahead k_ONE l_chance
  have h_mean : HasL P w K mg base "mean" ["tree", "chances", "row"] 5 m_mean := has_mean B h_total h_times h_chance l_mean
  have h_sorted_places : HasL P w K mg base "sorted_places" ["values"] 2 m_sorted_places := has_sorted_places B h_is_less l_sorted_places
  have h_worst : HasL P w K mg base "worst" ["values", "chances", "share"] 4 m_worst := has_worst B h_sorted_places h_least h_plus h_times h_minus h_over l_worst
  have h_worst_weights : HasL P w K mg base "worst_weights" ["values", "chances", "share"] 4 m_worst_weights := has_worst_weights B h_sorted_places h_least h_over h_minus l_worst_weights
  have h_accepts_weights : HasL P w K mg base "accepts_weights" ["values", "chances", "share", "told", "value"] 6 m_accepts_weights := has_accepts_weights B h_are_parts h_total h_is_less h_over h_dot k_ONE l_accepts_weights
  have h_worst_costs : HasL P w K mg base "worst_costs" ["tree", "chances", "share", "row"] 5 m_worst_costs := has_worst_costs B h_is_last h_ahead h_negative h_plus h_worst l_worst_costs
  have h_worst_cost : HasL P w K mg base "worst_cost" ["tree", "chances", "share", "row"] 6 m_worst_cost := has_worst_cost B h_worst_costs l_worst_cost
  have h_greatest_from : HasL P w K mg base "greatest_from" ["tree", "row", "node"] 28 (m_greatest_from 24) := (has_greatest_from B h_ahead h_is_less h_plus l_greatest_from 24).mono (by decide)
  have h_greatest_cost : HasL P w K mg base "greatest_cost" ["tree", "row"] 29 m_greatest_cost := has_greatest_cost B h_greatest_from l_greatest_cost
  have h_tilted : HasL P w K mg base "tilted" ["tree", "chances", "weights"] 4 m_tilted := has_tilted B h_over l_tilted
  have h_share_of : HasL P w K mg base "share_of" ["tree", "chances", "nodes"] 5 m_share_of := has_share_of B h_total h_chance l_share_of
  have h_Lstate : HasL P w K mg base "_law_state" ["script"] 1 m_Lstate := has_Lstate B l_Lstate
  have h_Ltake : HasL P w K mg base "_law_take" ["state", "most"] 1 m_Ltake := has_Ltake B l_Ltake
  have h_Lpick : HasL P w K mg base "_law_pick" ["state", "row"] 2 m_Lpick := has_Lpick B h_Ltake l_Lpick
  have h_Lpart : HasL P w K mg base "_law_part" ["upper", "lower"] 1 m_Lpart := has_Lpart B l_Lpart
  have h_Ladd : HasL P w K mg base "_law_add" ["one", "other"] 2 m_Ladd := has_Ladd B h_Lpart l_Ladd
  have h_Lmul : HasL P w K mg base "_law_mul" ["one", "other"] 2 m_Lmul := has_Lmul B h_Lpart l_Lmul
  have h_Lneg : HasL P w K mg base "_law_neg" ["one"] 1 m_Lneg := has_Lneg B l_Lneg
  have h_Lover : HasL P w K mg base "_law_over" ["one", "other"] 2 m_Lover := has_Lover B h_Lpart l_Lover
  have h_Lless : HasL P w K mg base "_law_less" ["one", "other"] 1 m_Lless := has_Lless B l_Lless
  have h_Ltotal : HasL P w K mg base "_law_total" ["rows"] 3 m_Ltotal := has_Ltotal B h_Ladd l_Ltotal
  have h_Ldot : HasL P w K mg base "_law_dot" ["one", "other"] 4 m_Ldot := has_Ldot B h_Ltotal h_Lmul l_Ldot
  have h_Lmost : HasL P w K mg base "_law_most" ["rows"] 2 m_Lmost := has_Lmost B h_Lless l_Lmost
  have h_Lleast : HasL P w K mg base "_law_least" ["rows"] 2 m_Lleast := has_Lleast B h_Lless l_Lleast
  have h_Lfraction : HasL P w K mg base "_law_fraction" ["state", "most"] 2 m_Lfraction := has_Lfraction B h_Lpart h_Ltake l_Lfraction
  have h_Lkids : HasL P w K mg base "_law_kids" ["tree", "node"] 1 m_Lkids := has_Lkids B l_Lkids
  have h_Lroad : HasL P w K mg base "_law_road" ["tree", "node"] 1 m_Lroad := has_Lroad B l_Lroad
  have h_Lshape : HasL P w K mg base "_law_shape" ["state", "moments", "wide"] 2 m_Lshape := has_Lshape B h_Ltake l_Lshape
  have h_Ltree : HasL P w K mg base "_law_tree" ["state", "moments", "wide"] 5 m_Ltree := has_Ltree B h_Lshape h_Ltake h_Lpart h_Ldot l_Ltree
  have h_Lrow : HasL P w K mg base "_law_row" ["state", "tree"] 3 m_Lrow := has_Lrow B h_Lfraction l_Lrow
  have h_Lchances : HasL P w K mg base "_law_chances" ["state", "many"] 2 m_Lchances := has_Lchances B h_Ltake h_Lpart l_Lchances
  have h_Lplaces : HasL P w K mg base "_law_places" ["values"] 2 m_Lplaces := has_Lplaces B h_Lless l_Lplaces
  have h_Lweights : HasL P w K mg base "_law_weights" ["values", "chances_told", "share"] 3 m_Lweights := has_Lweights B h_Lplaces h_Lleast h_Lover h_Ladd h_Lneg l_Lweights
  have h_Lshares : HasL P w K mg base "_law_shares" ["state"] 7 m_Lshares := has_Lshares B h_Ltake h_Lfraction h_Lchances h_Lpart h_Lweights h_Ldot h_sorted_places h_Lplaces h_worst h_worst_weights h_accepts_weights h_Ltotal h_Lless h_Lover h_Ladd h_Lleast l_Lshares
  have h_Lcosts_told : HasL P w K mg base "_law_costs_told" ["tree", "told", "share", "row", "kids"] 30 m_Lcosts_told := has_Lcosts_told B h_Lneg h_Ladd h_Ldot h_Lweights h_Lmost h_worst_costs h_worst_cost h_greatest_cost h_greatest_from h_mean h_Lless l_Lcosts_told
  have h_Ltilted : HasL P w K mg base "_law_tilted" ["state", "tree", "told", "kids"] 5 m_Ltilted := has_Ltilted B h_Lchances h_Lover h_tilted l_Ltilted
  have h_Ltrees : HasL P w K mg base "_law_trees" ["state"] 31 m_Ltrees := has_Ltrees B h_Ltree h_Ltake h_Lrow h_Lkids h_Lchances h_Lmul h_are_chances h_chance h_mean h_Ldot h_Lpart h_even h_share_of h_Lcosts_told h_Ltilted l_Ltrees
  have h_law : HasL P w K mg base "law" ["script"] 32 m_law := has_law B h_Lstate h_Lshares h_Ltrees l_law
  exact h_law
end
end Lw

/-! k47_M: plain: stable sorting and the greedy taking. -/
namespace Lw
open PySem Sm Sq
/-! ### stable order -/
def bef (V : Nat → Rat) (i j : Nat) : Prop := V i < V j ∨ (V i = V j ∧ i < j)
/-- the places of 0 .. n-1 in order -/
def Srt (V : Nat → Rat) (n : Nat) (pl : List Nat) : Prop := pl.Perm (List.range n) ∧ pl.Pairwise (bef V)
theorem bef_asymm {V : Nat → Rat} {i j : Nat} (h : bef V i j) (k : bef V j i) : False := by
  rcases h with h | ⟨h, l⟩ <;> rcases k with k | ⟨k, m⟩ <;> grind
theorem srt_unique {V : Nat → Rat} {n : Nat} {pl pm : List Nat} (h : Srt V n pl) (k : Srt V n pm) : pl = pm :=
  List.Perm.eq_of_pairwise (le := bef V) (fun a b _ _ x y => (bef_asymm x y).elim) h.2 k.2 (h.1.trans k.1.symm)
theorem bef_trans {V : Nat → Rat} {i j k : Nat} (h : bef V i j) (l : bef V j k) : bef V i k := by
  unfold bef at *; grind
theorem bef_total {V : Nat → Rat} {i j : Nat} (h : i ≠ j) : bef V i j ∨ bef V j i := by
  unfold bef; grind
/-- the first of the least ones -/
def bst (V : Nat → Rat) (r : Nat) (ks : List Nat) : Nat := ks.foldl (fun b k => if V k < V b then k else b) r
theorem bst_mem {V : Nat → Rat} : ∀ {ks : List Nat} {r : Nat}, bst V r ks = r ∨ bst V r ks ∈ ks
  | [], r => .inl rfl
  | k :: ks, r => by
    rcases bst_mem (V := V) (ks := ks) (r := if V k < V r then k else r) with e | e
    · have e' : bst V r (k :: ks) = if V k < V r then k else r := e
      rw [e']
      split
      · exact .inr (List.mem_cons_self ..)
      · exact .inl rfl
    · exact .inr (List.mem_cons_of_mem _ e)
theorem bst_bef {V : Nat → Rat} : ∀ {ks : List Nat} {r : Nat}, (∀ k ∈ ks, r < k) → ks.Pairwise (· < ·) → (bst V r ks = r ∨ bef V (bst V r ks) r) ∧ ∀ k ∈ ks, k ≠ bst V r ks → bef V (bst V r ks) k
  | [], r, _, _ => ⟨.inl rfl, fun k m => by cases m⟩
  | k :: ks, r, h, p => by
    have hp := List.pairwise_cons.mp p
    have hk := h k (List.mem_cons_self ..)
    show (bst V (if V k < V r then k else r) ks = r ∨ bef V (bst V (if V k < V r then k else r) ks) r) ∧ ∀ j ∈ k :: ks, j ≠ bst V (if V k < V r then k else r) ks → bef V (bst V (if V k < V r then k else r) ks) j
    by_cases c : V k < V r
    · rw [if_pos c]
      have ih := bst_bef (V := V) (ks := ks) (r := k) hp.1 hp.2
      have hb : bef V (bst V k ks) r := by
        rcases ih.1 with e | e
        · rw [e]; exact .inl c
        · exact bef_trans e (.inl c)
      refine ⟨.inr hb, fun j m nj => ?_⟩
      rcases List.mem_cons.mp m with rfl | m
      · rcases ih.1 with e | e
        · exact absurd e.symm nj
        · exact e
      · exact ih.2 j m nj
    · rw [if_neg c]
      have ih := bst_bef (V := V) (ks := ks) (r := r) (fun j m => h j (List.mem_cons_of_mem _ m)) hp.2
      have hrk : bef V r k := by unfold bef; grind
      refine ⟨ih.1, fun j m nj => ?_⟩
      rcases List.mem_cons.mp m with rfl | m
      · rcases ih.1 with e | e
        · rw [e]; exact hrk
        · exact bef_trans e hrk
      · exact ih.2 j m nj
/-- insertion keeps the order: what is put in is later than all in the row -/
theorem ins_sorted {V : Nat → Rat} {pl : List Nat} {k : Nat} (p : pl.Pairwise (bef V)) (hk : ∀ j ∈ pl, j < k) :
    (pl.take (pl.filter fun j => !decide (V k < V j)).length ++ [k] ++ pl.drop (pl.filter fun j => !decide (V k < V j)).length).Pairwise (bef V) := by
  suffices H : ∀ pl : List Nat, pl.Pairwise (bef V) → (∀ j ∈ pl, j < k) → (pl.take (pl.filter fun j => !decide (V k < V j)).length ++ [k] ++ pl.drop (pl.filter fun j => !decide (V k < V j)).length).Pairwise (bef V) ∧ (∀ j ∈ pl, V k < V j → ∀ i ∈ pl.drop (pl.filter fun j => !decide (V k < V j)).length, True) from (H pl p hk).1
  intro pl p hk
  refine ⟨?_, fun _ _ _ _ _ => trivial⟩
  induction pl with
  | nil => simp
  | cons x pl ih =>
    have hp := List.pairwise_cons.mp p
    by_cases c : V k < V x
    · have hz : (x :: pl).filter (fun j => !decide (V k < V j)) = [] := by
        rw [List.filter_eq_nil_iff]
        intro j m
        rcases List.mem_cons.mp m with rfl | m
        · simp [c]
        · have := hp.1 j m
          unfold bef at this
          have : V k < V j := by grind
          simp [this]
      rw [hz]
      simp only [List.length_nil, List.take_zero, List.drop_zero, List.nil_append, List.singleton_append, List.pairwise_cons]
      refine ⟨fun j m => ?_, hp⟩
      rcases List.mem_cons.mp m with rfl | m
      · exact .inl c
      · exact bef_trans (.inl c) (hp.1 j m)
    · rw [List.filter_cons_of_pos (by simp [c])]
      simp only [List.length_cons, List.take_succ_cons, List.drop_succ_cons, List.cons_append, List.pairwise_cons]
      refine ⟨fun j m => ?_, ih hp.2 fun j m => hk j (List.mem_cons_of_mem _ m)⟩
      rw [List.append_assoc] at m
      rcases List.mem_append.mp m with m | m
      · exact hp.1 j (List.mem_of_mem_take m)
      · rcases List.mem_append.mp m with m | m
        · rw [List.mem_singleton] at m
          subst m
          have := hk x (List.mem_cons_self ..)
          unfold bef; grind
        · exact hp.1 j (List.mem_of_mem_drop m)
theorem ins_perm {pl : List Nat} {k n : Nat} : (pl.take n ++ [k] ++ pl.drop n).Perm (k :: pl) := by
  rw [List.append_assoc]
  refine List.perm_middle.trans ?_
  show (k :: (pl.take n ++ pl.drop n)).Perm (k :: pl)
  rw [List.take_append_drop]
/-! ### sums over a row of places -/
def sm (f : Nat → Rat) (ks : List Nat) : Rat := tot (ks.map f)
@[simp] theorem sm_nil {f : Nat → Rat} : sm f [] = 0 := rfl
@[simp] theorem sm_cons {f : Nat → Rat} {k : Nat} {ks : List Nat} : sm f (k :: ks) = f k + sm f ks := rfl
theorem sm_perm {f : Nat → Rat} {ks js : List Nat} (p : ks.Perm js) : sm f ks = sm f js := by
  induction p with
  | nil => rfl
  | cons x _ ih => simp [ih]
  | swap x y l => simp; grind
  | trans _ _ ih1 ih2 => rw [ih1, ih2]
theorem sm_congr {f g : Nat → Rat} {ks : List Nat} (h : ∀ k ∈ ks, f k = g k) : sm f ks = sm g ks := by
  induction ks with
  | nil => rfl
  | cons k ks ih => rw [sm_cons, sm_cons, h k (List.mem_cons_self ..), ih fun j m => h j (List.mem_cons_of_mem _ m)]
theorem sm_add {f g : Nat → Rat} {ks : List Nat} : sm (fun k => f k + g k) ks = sm f ks + sm g ks := by
  induction ks with
  | nil => simp [Rat.add_zero]
  | cons k ks ih => simp [ih]; grind
theorem sm_mul {f : Nat → Rat} {c : Rat} {ks : List Nat} : sm (fun k => c * f k) ks = c * sm f ks := by
  induction ks with
  | nil => simp
  | cons k ks ih => simp [ih]; grind
theorem sm_nonneg {f : Nat → Rat} {ks : List Nat} (h : ∀ k ∈ ks, 0 ≤ f k) : 0 ≤ sm f ks := by
  induction ks with
  | nil => simp
  | cons k ks ih =>
    have h1 := h k (List.mem_cons_self ..)
    have h2 := ih fun j m => h j (List.mem_cons_of_mem _ m)
    rw [sm_cons]
    grind
/-! ### the greedy taking -/
def mn (a b : Rat) : Rat := if b < a then b else a
/-- what is taken at each place -/
def gw (c : Nat → Rat) : Rat → List Nat → Nat → Rat
  | _, [], _ => 0
  | L, k :: ks, j => if j = k then mn L (c k) else gw c (L - mn L (c k)) ks j
theorem mn_le {a b : Rat} : mn a b ≤ a ∧ mn a b ≤ b := by unfold mn; split <;> grind
theorem mn_nonneg {a b : Rat} (h : 0 ≤ a) (k : 0 ≤ b) : 0 ≤ mn a b := by unfold mn; split <;> grind
theorem gw_out {c : Nat → Rat} {j : Nat} : ∀ {ks : List Nat} {L : Rat}, j ∉ ks → gw c L ks j = 0
  | [], _, _ => rfl
  | k :: ks, L, h => by
    rw [gw, if_neg (fun e => h (by rw [e]; exact List.mem_cons_self ..)), gw_out fun m => h (List.mem_cons_of_mem _ m)]
theorem gw_bounds {c : Nat → Rat} {j : Nat} : ∀ {ks : List Nat} {L : Rat}, 0 ≤ L → (∀ k ∈ ks, 0 ≤ c k) → 0 ≤ gw c L ks j ∧ (j ∈ ks → gw c L ks j ≤ c j)
  | [], L, _, _ => ⟨Rat.le_refl, fun m => by cases m⟩
  | k :: ks, L, hL, hc => by
    have h0 := mn_le (a := L) (b := c k)
    by_cases e : j = k
    · subst e
      rw [gw, if_pos rfl]
      exact ⟨mn_nonneg hL (hc j (List.mem_cons_self ..)), fun _ => h0.2⟩
    · rw [gw, if_neg e]
      have ih := gw_bounds (c := c) (j := j) (ks := ks) (L := L - mn L (c k)) (by grind) fun i m => hc i (List.mem_cons_of_mem _ m)
      refine ⟨ih.1, fun m => ih.2 ?_⟩
      rcases List.mem_cons.mp m with m | m
      · exact absurd m e
      · exact m
theorem gw_cons_sm {c : Nat → Rat} {k : Nat} {ks : List Nat} {L : Rat} {V : Nat → Rat} (nk : k ∉ ks) : sm (fun j => gw c L (k :: ks) j * V j) (k :: ks) = mn L (c k) * V k + sm (fun j => gw c (L - mn L (c k)) ks j * V j) ks := by
  rw [sm_cons, gw, if_pos rfl]
  congr 1
  refine sm_congr fun j m => ?_
  rw [gw, if_neg fun e => nk (by rw [← e]; exact m)]
/-- all of L is taken where there is enough -/
theorem gw_sum {c : Nat → Rat} : ∀ {ks : List Nat} {L : Rat}, ks.Nodup → 0 ≤ L → (∀ k ∈ ks, 0 ≤ c k) → L ≤ sm c ks → sm (gw c L ks) ks = L
  | [], L, _, h0, _, h => by simp at h ⊢; grind
  | k :: ks, L, nd, h0, hc, h => by
    have nd' := List.nodup_cons.mp nd
    have e : sm (gw c L (k :: ks)) (k :: ks) = mn L (c k) + sm (gw c (L - mn L (c k)) ks) ks := by
      have := gw_cons_sm (c := c) (L := L) (V := fun _ => 1) nd'.1
      simpa [Rat.mul_one] using this
    rw [e, gw_sum nd'.2]
    · grind
    · have := mn_le (a := L) (b := c k); grind
    · exact fun i m => hc i (List.mem_cons_of_mem _ m)
    · rw [sm_cons] at h
      have := sm_nonneg (f := c) (ks := ks) fun i m => hc i (List.mem_cons_of_mem _ m)
      unfold mn; split <;> grind
/-- the last place of which something is taken -/
theorem gw_cut {c V : Nat → Rat} : ∀ {ks : List Nat} {L : Rat}, 0 ≤ L → (∀ k ∈ ks, 0 ≤ c k) → ks.Pairwise (bef V) → ks.Nodup → ∃ l : Rat, ∀ k ∈ ks, (V k < l → gw c L ks k = c k) ∧ (l < V k → gw c L ks k = 0)
  | [], L, _, _, _, _ => ⟨0, fun k m => by cases m⟩
  | k :: ks, L, hL, hc, p, nd => by
    have hp := List.pairwise_cons.mp p
    have nd' := List.nodup_cons.mp nd
    have h0 := mn_le (a := L) (b := c k)
    obtain ⟨l, hl⟩ := gw_cut (c := c) (V := V) (ks := ks) (L := L - mn L (c k)) (by grind) (fun i m => hc i (List.mem_cons_of_mem _ m)) hp.2 nd'.2
    have hle : ∀ j ∈ ks, V k ≤ V j := fun j m => by have := hp.1 j m; unfold bef at this; grind
    have hz : ∀ j, j ∈ ks → gw c L (k :: ks) j = gw c (L - mn L (c k)) ks j := fun j m => by
      rw [gw, if_neg fun e => nd'.1 (by rw [← e]; exact m)]
    by_cases d : c k < L
    · have hm : mn L (c k) = c k := by unfold mn; rw [if_pos d]
      refine ⟨if V k < l then l else V k, fun j m => ?_⟩
      rcases List.mem_cons.mp m with rfl | m
      · rw [gw, if_pos rfl, hm]
        refine ⟨fun _ => rfl, fun h => ?_⟩
        split at h <;> grind
      · have := hl j m
        have := hle j m
        rw [hz j m]
        split <;> grind
    · have hm : mn L (c k) = L := by unfold mn; rw [if_neg d]
      refine ⟨V k, fun j m => ?_⟩
      rcases List.mem_cons.mp m with rfl | m
      · exact ⟨fun h => by grind, fun h => by grind⟩
      · have := hle j m
        rw [hz j m, hm]
        have h0 : L - L = 0 := by grind
        rw [h0]
        have hb := fun {j : Nat} => gw_bounds (c := c) (j := j) (ks := ks) (L := 0) Rat.le_refl (fun i m => hc i (List.mem_cons_of_mem _ m))
        have hs : ∀ ks : List Nat, (∀ i ∈ ks, 0 ≤ c i) → gw c 0 ks j = 0 := by
          intro ks
          induction ks with
          | nil => intro _; rfl
          | cons i ks ih =>
            intro hc
            have hi := hc i (List.mem_cons_self ..)
            have : mn 0 (c i) = 0 := by unfold mn; split <;> grind
            rw [gw, this]
            split
            · rfl
            · rw [show (0 : Rat) - 0 = 0 by grind]
              exact ih fun x m => hc x (List.mem_cons_of_mem _ m)
        rw [hs ks fun i m => hc i (List.mem_cons_of_mem _ m)]
        exact ⟨fun h => by grind, fun _ => rfl⟩
/-- the greedy taking is the least -/
theorem gw_least {c V x : Nat → Rat} {ks : List Nat} {L : Rat} (hL : 0 ≤ L) (hc : ∀ k ∈ ks, 0 ≤ c k) (p : ks.Pairwise (bef V)) (nd : ks.Nodup) (hx : ∀ k ∈ ks, 0 ≤ x k ∧ x k ≤ c k) (sx : sm x ks = L) :
    sm (fun k => gw c L ks k * V k) ks ≤ sm (fun k => x k * V k) ks := by
  obtain ⟨l, hl⟩ := gw_cut (L := L) hL hc p nd
  have hsum : L ≤ sm c ks := by
    rw [← sx]
    have := sm_nonneg (f := fun k => c k + (-1) * x k) (ks := ks) (fun k m => by have := hx k m; grind)
    rw [sm_add, sm_mul] at this
    grind
  have e := gw_sum nd hL hc hsum
  have := sm_nonneg (f := fun k => (x k * V k + (-1) * (gw c L ks k * V k)) + (-l) * (x k + (-1) * gw c L ks k)) (ks := ks) (fun k m => by
    have h1 := hx k m
    have h2 := hl k m
    have h3 := gw_bounds (c := c) (j := k) (L := L) (ks := ks) hL hc
    have e : (x k * V k + (-1) * (gw c L ks k * V k)) + (-l) * (x k + (-1) * gw c L ks k) = (x k - gw c L ks k) * (V k - l) := by grind
    rw [e]
    rcases (show V k < l ∨ V k = l ∨ l < V k by grind) with h | h | h
    · rw [h2.1 h]
      have : (x k - c k) * (V k - l) = (c k - x k) * (l - V k) := by grind
      rw [this]
      exact Rat.mul_nonneg (by grind) (by grind)
    · rw [h]
      have : (x k - gw c L ks k) * (l - l) = 0 := by grind
      rw [this]; exact Rat.le_refl
    · rw [h2.2 h]
      exact Rat.mul_nonneg (by grind) (by grind))
  rw [sm_add, sm_mul, sm_add, sm_add, sm_mul, sm_mul, e, sx] at this
  have h0 : -l * (L + -1 * L) = 0 := by grind
  rw [h0] at this
  grind
/-- shares of shares -/
theorem gw_scale {c : Nat → Rat} {s : Rat} (hs : 0 < s) : ∀ {ks : List Nat} {L : Rat} {j : Nat}, gw c (s * L) ks j = s * gw (fun k => c k / s) L ks j
  | [], L, j => by simp [gw]
  | k :: ks, L, j => by
    have hm : mn (s * L) (c k) = s * mn L (c k / s) := by
      unfold mn
      have : c k < s * L ↔ c k / s < L := by
        rw [Rat.div_lt_iff hs, Rat.mul_comm]
      by_cases h : c k / s < L
      · rw [if_pos h, if_pos (this.mpr h)]; grind
      · rw [if_neg h, if_neg (fun z => h (this.mp z))]
    simp only [gw, hm]
    split
    · rfl
    · rw [show s * L - s * mn L (c k / s) = s * (L - mn L (c k / s)) by grind]
      exact gw_scale hs
/-- where all fits exactly all is taken -/
theorem gw_all {c : Nat → Rat} : ∀ {ks : List Nat} {L : Rat}, ks.Nodup → (∀ k ∈ ks, 0 ≤ c k) → L = sm c ks → ∀ j ∈ ks, gw c L ks j = c j
  | [], _, _, _, _, j, m => by cases m
  | k :: ks, L, nd, hc, h, j, m => by
    have nd' := List.nodup_cons.mp nd
    have hs := sm_nonneg (f := c) (ks := ks) fun i m => hc i (List.mem_cons_of_mem _ m)
    rw [sm_cons] at h
    have hm : mn L (c k) = c k := by unfold mn; split <;> grind
    rw [gw, hm]
    split
    · next e => rw [e]
    · next e =>
      rcases List.mem_cons.mp m with m | m
      · exact absurd m e
      · exact gw_all nd'.2 (fun i m => hc i (List.mem_cons_of_mem _ m)) (by grind) j m
/-! ### the loops of the taking -/
def stW (c V : Nat → Rat) (s : Rat × Rat) (k : Nat) : Rat × Rat := (s.1 - mn s.1 (c k), s.2 + mn s.1 (c k) * V k)
theorem stW_end {c V : Nat → Rat} : ∀ {ks : List Nat} {L f : Rat}, ks.Nodup → (ks.foldl (stW c V) (L, f)).2 = f + sm (fun k => gw c L ks k * V k) ks
  | [], L, f, _ => by simp [Rat.add_zero]
  | k :: ks, L, f, nd => by
    have nd' := List.nodup_cons.mp nd
    rw [gw_cons_sm nd'.1, List.foldl_cons]
    show (ks.foldl (stW c V) (L - mn L (c k), f + mn L (c k) * V k)).2 = _
    rw [stW_end nd'.2]
    grind
theorem sz_mn {a b : Nat} {p q : Rat} (h : Sz a p) (k : Sz b q) : Sz (a + b) (mn p q) := by
  unfold mn; split
  · exact k.mono (by omega)
  · exact h.mono (by omega)
theorem sz_rest {a b : Nat} {p q : Rat} (h : Sz a p) (k : Sz b q) (h1 : 1 ≤ a) : Sz (a + (b + 1)) (p - mn p q) := by
  unfold mn; split
  · exact (sz_sub h k).mono (by omega)
  · rw [show p - p = 0 by grind]; exact sz_0.mono (by omega)
theorem sz_stW {c V : Nat → Rat} {b v A : Nat} (hc : ∀ k, Sz b (c k)) (hv : ∀ k, Sz v (V k)) : ∀ {ks : List Nat} {L f : Rat} {a d : Nat}, Sz a L → Sz d f → 1 ≤ a → a + ks.length * (b + 1) ≤ A →
    Sz A (ks.foldl (stW c V) (L, f)).1 ∧ Sz (d + ks.length * (A + b + v + 1)) (ks.foldl (stW c V) (L, f)).2
  | [], L, f, a, d, hL, hf, _, l => ⟨hL.mono (by simp at l; omega), hf.mono (by simp)⟩
  | k :: ks, L, f, a, d, hL, hf, h1, l => by
    rw [List.length_cons, Nat.succ_mul] at l
    have := sz_stW (A := A) hc hv (ks := ks) (sz_rest hL (hc k) h1) (d := d + (A + b + v + 1)) (f := f + mn L (c k) * V k) ((sz_add hf (sz_mul (sz_mn hL (hc k)) (hv k))).mono (by omega)) (by omega) (by omega)
    refine ⟨this.1, this.2.mono ?_⟩
    rw [List.length_cons, Nat.succ_mul]
    omega
def stG (c : Nat → Rat) (q : Rat → Rat) (s : Rat × List Rat) (k : Nat) : Rat × List Rat := (s.1 - mn s.1 (c k), s.2.set k (q (mn s.1 (c k))))
theorem stG_len {c : Nat → Rat} {q : Rat → Rat} : ∀ {ks : List Nat} {L : Rat} {w : List Rat}, (ks.foldl (stG c q) (L, w)).2.length = w.length
  | [], _, _ => rfl
  | k :: ks, L, w => by
    rw [List.foldl_cons]
    show (ks.foldl (stG c q) (L - mn L (c k), w.set k (q (mn L (c k))))).2.length = _
    rw [stG_len, List.length_set]
theorem stG_fst {c V : Nat → Rat} {q : Rat → Rat} : ∀ {ks : List Nat} {L f : Rat} {w : List Rat}, (ks.foldl (stG c q) (L, w)).1 = (ks.foldl (stW c V) (L, f)).1
  | [], _, _, _ => rfl
  | k :: ks, L, f, w => by
    rw [List.foldl_cons, List.foldl_cons]
    exact stG_fst
theorem stG_get {c : Nat → Rat} {q : Rat → Rat} : ∀ {ks : List Nat} {L : Rat} {w : List Rat} {j : Nat}, ks.Nodup → j < w.length → (ks.foldl (stG c q) (L, w)).2[j]? = if j ∈ ks then some (q (gw c L ks j)) else w[j]?
  | [], L, w, j, _, _ => by simp
  | k :: ks, L, w, j, nd, l => by
    have nd' := List.nodup_cons.mp nd
    rw [List.foldl_cons]
    show (ks.foldl (stG c q) (L - mn L (c k), w.set k (q (mn L (c k))))).2[j]? = _
    rw [stG_get nd'.2 (by simpa using l)]
    by_cases e : j = k
    · subst e
      rw [if_neg nd'.1, if_pos (List.mem_cons_self ..), gw, if_pos rfl, List.getElem?_set_self l]
    · by_cases m : j ∈ ks
      · rw [if_pos m, if_pos (List.mem_cons_of_mem _ m), gw, if_neg e]
      · rw [if_neg m, if_neg (by simp [e, m]), List.getElem?_set_ne (fun z => e z.symm)]
theorem stG_end {c : Nat → Rat} {q : Rat → Rat} {ks : List Nat} {L : Rat} {w : List Rat} (p : ks.Perm (List.range w.length)) : (ks.foldl (stG c q) (L, w)).2 = (List.range w.length).map fun j => q (gw c L ks j) := by
  have nd : ks.Nodup := p.nodup_iff.mpr List.nodup_range
  apply List.ext_getElem?
  intro j
  by_cases l : j < w.length
  · rw [stG_get nd l, if_pos (p.mem_iff.mpr (List.mem_range.mpr l))]
    simp [l]
  · rw [List.getElem?_eq_none (by rw [stG_len]; omega), List.getElem?_eq_none (by simp; omega)]
end Lw

/-! k47_E1: what the program's and the law's sorting and shares compute. -/
namespace Lw
open PySem PySem.Spec PyProof.Rows L2 Sm Sq
def Vf (vs : List Rat) (k : Nat) : Rat := vs[k]?.getD 0
theorem Vf_get {vs : List Rat} {k : Nat} (l : k < vs.length) : vs[k]? = some (Vf vs k) := by
  unfold Vf; rw [List.getElem?_eq_getElem l]; rfl
theorem ok_Vf {b : Nat} {vs : List Rat} (z : SzL b vs) (l : b ≤ 4000) (k : Nat) : Ok (Vf vs k) := get_ok z l
theorem v_ixV {h : MH} {d : D} {vs : List Rat} (s : Sqn h d (vs.map eQ)) {k : Nat} (l : k < vs.length) : dIx d (.int k) h = .ok (eQ (Vf vs k)) h := v_ixM s (Vf_get l)
theorem rem_at {ks : List Nat} {b : Nat} (m : b ∈ ks) : ∃ j, (ks.map fun k : Nat => (k : Int)).findIdx? (fun z => decide (z = (b : Int))) = some j ∧ ks.eraseIdx j = ks.erase b := by
  induction ks with
  | nil => cases m
  | cons k ks ih =>
    by_cases e : k = b
    · subst e
      exact ⟨0, by simp [List.findIdx?_cons], by simp⟩
    · have hm : b ∈ ks := by
        rcases List.mem_cons.mp m with m | m
        · exact absurd m.symm e
        · exact m
      obtain ⟨j, e1, e2⟩ := ih hm
      refine ⟨j + 1, ?_, ?_⟩
      · rw [List.map_cons, List.findIdx?_cons, if_neg (by simpa using fun z => e (by omega)), e1]
        rfl
      · rw [List.eraseIdx_cons_succ, e2, List.erase_cons_tail (by simpa using e)]
theorem map_eraseIdx' {α β : Type} (f : α → β) : ∀ (xs : List α) (j : Nat), (xs.map f).eraseIdx j = (xs.eraseIdx j).map f
  | [], _ => rfl
  | x :: xs, 0 => rfl
  | x :: xs, j + 1 => by simp [map_eraseIdx' f xs j]
theorem v_remove {h : MH} {n : Nat} {ks : List Nat} {b : Nat} (e : h[n]? = some (.lst (ks.map eI))) (m : b ∈ ks) : mRemove (.lst n) [.int b] h = .ok .non (h.set n (.lst ((ks.erase b).map eI))) := by
  obtain ⟨j, e1, e2⟩ := rem_at m
  have h1 : ks.map eI = (ks.map fun k : Nat => (k : Int)).map D.int := by simp [eI]
  have h2 : intsD (ks.map eI) = some (ks.map fun k : Nat => (k : Int)) := by rw [h1, intsD_map]
  simp only [mRemove, e, h2, e1]
  rw [map_eraseIdx', e2]
theorem v_insert {h : MH} {n : Nat} {ks : List Nat} {b i : Nat} (e : h[n]? = some (.lst (ks.map eI))) (l : ks.length < 1000000) (li : i ≤ ks.length) : mInsert (.lst n) [.int i, .int b] h = .ok .non (h.set n (.lst ((ks.take i ++ [b] ++ ks.drop i).map eI))) := by
  simp only [mInsert, e, List.length_map]
  rw [if_pos ⟨l, by omega, by omega⟩]
  simp [eI, List.map_take, List.map_drop]
section
variable {vs : List Rat} {h : MH} {v : D}
/-- one search of the least -/
theorem best_loop {g : MH} {ks : List Nat} {r : Nat} {n : Nat} {z1 z2 : Option D} (s : Sqn (h ++ g) v (vs.map eQ)) (z : SzL 4000 vs) (hk : ∀ k ∈ r :: ks, k < vs.length) (en : (h ++ g)[n]? = some (.lst ((r :: ks).map eI))) (m : Nat) :
    ∃ z', fFor (iSeq (fVar 1)) (gNm 4) (fSet 3 (fIfE (fTru (fGc (fCall 2 m_is_less (fCons (fOp dIx (fVar 0) (fVar 4)) (fCons (fOp dIx (fVar 0) (fVar 3)) fNil))))) (fVar 4) (fVar 3))) [some v, some (.lst n), some (.lst m), some (.int r), z2] (h ++ g) = .ok (.nx [some v, some (.lst n), some (.lst m), some (.int (bst (Vf vs) r ks)), z']) (h ++ g) := by
  obtain ⟨σ', e, z', hz⟩ := fFor_seq (fe := fVar 1) (tgt := gNm 4) (body := fSet 3 (fIfE (fTru (fGc (fCall 2 m_is_less (fCons (fOp dIx (fVar 0) (fVar 4)) (fCons (fOp dIx (fVar 0) (fVar 3)) fNil))))) (fVar 4) (fVar 3))) (σ := [some v, some (.lst n), some (.lst m), some (.int r), z2]) (h := h ++ g) (d := .lst n) (ds := (r :: ks).map eI) (sqn_l en) (by simp)
    (fun j σ => ∃ z', σ = [some v, some (.lst n), some (.lst m), some (.int (bst (Vf vs) r ((r :: ks).take j))), z']) ⟨z2, rfl⟩ (by
      rintro j d σ ej ⟨z', rfl⟩
      rw [List.getElem?_map, Option.map_eq_some_iff] at ej
      obtain ⟨k, ek, rfl⟩ := ej
      have hb : bst (Vf vs) r ((r :: ks).take j) ∈ r :: ks := by
        rcases bst_mem (V := Vf vs) (ks := (r :: ks).take j) (r := r) with e | e
        · rw [e]; exact List.mem_cons_self ..
        · exact List.mem_of_mem_take e
      have hkl := hk k (List.mem_of_getElem? ek)
      refine ⟨_, _, rfl, ?_, some (eI k), rfl⟩
      have ht : bst (Vf vs) r ((r :: ks).take (j + 1)) = if Vf vs k < Vf vs (bst (Vf vs) r ((r :: ks).take j)) then k else bst (Vf vs) r ((r :: ks).take j) := by
        rw [List.take_succ, ek]
        unfold bst
        rw [List.foldl_append]
        rfl
      simp only [ht, ev_set, ev_ifE, ev_tru, ev_gc, ev_call, ev_cons, ev_op, ev_var, ev_nil, List.getElem?_cons_succ, List.getElem?_cons_zero, List.set_cons_succ, List.set_cons_zero, bind_ok, List.length_cons, List.length_nil, eI, v_ixV s hkl, v_ixV s (hk _ hb), e_is_less (ok_Vf z (Nat.le_refl _) _) (ok_Vf z (Nat.le_refl _) _), gc_same, v_truB, if_true]
      by_cases c : Vf vs k < Vf vs (bst (Vf vs) r ((r :: ks).take j))
      · simp only [c, decide_true, if_true, bind_ok]
      · simp only [c, decide_false, Bool.false_eq_true, if_false, bind_ok])
  refine ⟨z', ?_⟩
  have hx : bst (Vf vs) r (r :: ks) = bst (Vf vs) r ks := by
    show bst (Vf vs) (if Vf vs r < Vf vs r then r else r) ks = _
    rw [ite_self]
  rw [e, hz, List.length_map, List.take_length, hx]
theorem Sqn.set2 {a b : HE} {a' b' : HE} {ds : List D} (s : Sqn h v ds) : Sqn (h ++ [a', b']) v ds := sqn_app s
theorem set_0 {a b c : HE} : (h ++ [a, b]).set h.length c = h ++ [c, b] := by
  rw [List.set_append_right _ _ (by omega), Nat.sub_self]; rfl
theorem set_1 {a b c : HE} : (h ++ [a, b]).set (h.length + 1) c = h ++ [a, c] := by
  rw [List.set_append_right _ _ (by omega), Nat.add_sub_cancel_left]; rfl
theorem get_0 {a : HE} {g : MH} : (h ++ a :: g)[h.length]? = some a := by simp
theorem get_1 {a b : HE} {g : MH} : (h ++ a :: b :: g)[h.length + 1]? = some b := by
  rw [List.getElem?_append_right (by omega), Nat.add_sub_cancel_left]; rfl
theorem get_2 {a b c : HE} {g : MH} : (h ++ a :: b :: c :: g)[h.length + 2]? = some c := by
  rw [List.getElem?_append_right (by omega), Nat.add_sub_cancel_left]; rfl
theorem clo2 (c : Clo h) {as bs : List D} (pa : D.puL as = true) (pb : D.puL bs = true) : Clo (h ++ [.lst as, .lst bs]) := by
  have := (c.push pa).push pb
  simpa using this
theorem e_sorted_places (c : Clo h) (s : Sqn h v (vs.map eQ)) (z : SzL 4000 vs) (l : vs.length < 1000000) : ∃ pl, Srt (Vf vs) vs.length pl ∧ m_sorted_places [v] h = .ok (.lst h.length) (h ++ [.lst (pl.map eI)]) := by
  unfold m_sorted_places mOf b_sorted_places
  have e1 : cLen [v] h = .ok (.int vs.length) h := v_lenM s
  have e2 : gcR h.length (lstRg 0 (vs.length : Int) h) = .ok (.lst h.length) (h ++ [.lst ((List.range vs.length).map eI)]) := by
    have : rgD 0 (vs.length : Int) = (List.range vs.length).map eI := by simp [rgD, eI]
    unfold lstRg
    rw [if_pos (by omega), this, v_alloc (by simp; omega), gc_np c (eIs_pu _)]
  have e3 : allocD [] (h ++ [.lst ((List.range vs.length).map eI)]) = .ok (.lst (h.length + 1)) (h ++ [.lst ((List.range vs.length).map eI), .lst []]) := by
    rw [v_alloc (by simp)]; simp
  obtain ⟨m', σ', h', e, ⟨rs, fs, z1, z2, hm, rfl, rfl, hp, hs, hb, hr⟩, hc⟩ := fWhile_inv (c := fGcT (fTst (fOp dNe (fVar 1) (fLst fNil)))) (b := fSeq (fSet 3 (fOp dIx (fVar 1) (fC (.int 0)))) (fSeq (fFor (iSeq (fVar 1)) (gNm 4) (fSet 3 (fIfE (fTru (fGc (fCall 2 m_is_less (fCons (fOp dIx (fVar 0) (fVar 4)) (fCons (fOp dIx (fVar 0) (fVar 3)) fNil))))) (fVar 4) (fVar 3)))) (fSeq (fExp (fMt mAppend (fVar 2) (fCons (fVar 3) fNil))) (fExp (fMt mRemove (fVar 1) (fCons (fVar 3) fNil))))))
    (fun m σ h' => ∃ (rs fs : List Nat) (z1 z2 : Option D), m = rs.length ∧ σ = [some v, some (.lst h.length), some (.lst (h.length + 1)), z1, z2] ∧ h' = h ++ [.lst (rs.map eI), .lst (fs.map eI)] ∧ (fs ++ rs).Perm (List.range vs.length) ∧ fs.Pairwise (bef (Vf vs)) ∧ (∀ f ∈ fs, ∀ r ∈ rs, bef (Vf vs) f r) ∧ rs.Pairwise (· < ·))
    [some v, some (.lst h.length), some (.lst (h.length + 1)), none, none] (h ++ [.lst ((List.range vs.length).map eI), .lst []]) vs.length ⟨List.range vs.length, [], none, none, by simp, rfl, rfl, by simp, .nil, (fun _ m => by cases m), List.pairwise_lt_range⟩ (by
      rintro m σ _ ⟨rs, fs, z1, z2, hm, rfl, rfl, hp, hs, hb, hr⟩
      have hC : Clo (h ++ [.lst (rs.map eI), .lst (fs.map eI)]) := clo2 c (eIs_pu _) (eIs_pu _)
      have ec : fGcT (fTst (fOp dNe (fVar 1) (fLst fNil))) [some v, some (.lst h.length), some (.lst (h.length + 1)), z1, z2] (h ++ [.lst (rs.map eI), .lst (fs.map eI)]) = .ok (!decide (rs = [])) (h ++ [.lst (rs.map eI), .lst (fs.map eI)]) := by
        have ha : allocD [] (h ++ [.lst (rs.map eI), .lst (fs.map eI)]) = .ok (.lst (h ++ [HE.lst (rs.map eI), .lst (fs.map eI)]).length) (h ++ [.lst (rs.map eI), .lst (fs.map eI)] ++ [.lst []]) := v_alloc (by simp)
        have hn : dNe (.lst h.length) (.lst (h ++ [HE.lst (rs.map eI), .lst (fs.map eI)]).length) (h ++ [.lst (rs.map eI), .lst (fs.map eI)] ++ [.lst []]) = .ok (.bl (!decide (rs.map eI = []))) (h ++ [.lst (rs.map eI), .lst (fs.map eI)] ++ [.lst []]) :=
          v_neL (by simp) (by simp) (flatL_eI _) (fun _ m => by cases m)
        have hd : decide (rs.map eI = []) = decide (rs = []) := by rw [decide_eq_decide, List.map_eq_nil_iff]
        simp only [ev_gct, ev_tst, ev_op, ev_var, ev_lst, ev_nil, List.getElem?_cons_zero, List.getElem?_cons_succ, bind_ok, ha, hn, ev_toB, hd, gct_drop hC]
      cases rs with
      | nil => left; exact ⟨_, by rw [ec]; rfl, rfl⟩
      | cons r rs =>
        right
        refine ⟨by rw [ec]; rfl, ?_⟩
        have hmem : ∀ k ∈ r :: rs, k < vs.length := fun k m => List.mem_range.mp (hp.mem_iff.mp (List.mem_append_right _ m))
        have hbm : bst (Vf vs) r rs ∈ r :: rs := by
          rcases bst_mem (V := Vf vs) (ks := rs) (r := r) with e | e
          · rw [e]; exact List.mem_cons_self ..
          · exact List.mem_cons_of_mem _ e
        obtain ⟨z', el⟩ := best_loop (h := h) (v := v) (vs := vs) (g := [.lst ((r :: rs).map eI), .lst (fs.map eI)]) (ks := rs) (r := r) (n := h.length) (z1 := z1) (z2 := z2) (sqn_app s) z hmem get_0 (h.length + 1)
        have hr' := List.pairwise_cons.mp hr
        have hbb := bst_bef (V := Vf vs) hr'.1 hr'.2
        have hlen : fs.length + (rs.length + 1) = vs.length := by have := hp.length_eq; simpa using this
        have e0 : dIx (.lst h.length) (.int 0) (h ++ [.lst ((r :: rs).map eI), .lst (fs.map eI)]) = .ok (.int r) (h ++ [.lst ((r :: rs).map eI), .lst (fs.map eI)]) := v_ix (dI_lst get_0) atI_0
        have ea : mAppend (.lst (h.length + 1)) [.int (bst (Vf vs) r rs)] (h ++ [.lst ((r :: rs).map eI), .lst (fs.map eI)]) = .ok .non (h ++ [.lst ((r :: rs).map eI), .lst ((fs ++ [bst (Vf vs) r rs]).map eI)]) := by
          rw [v_append get_1 (by rw [List.length_map]; omega), set_1, List.map_append]; rfl
        have er : mRemove (.lst h.length) [.int (bst (Vf vs) r rs)] (h ++ [.lst ((r :: rs).map eI), .lst ((fs ++ [bst (Vf vs) r rs]).map eI)]) = .ok .non (h ++ [.lst (((r :: rs).erase (bst (Vf vs) r rs)).map eI), .lst ((fs ++ [bst (Vf vs) r rs]).map eI)]) := by
          rw [v_remove get_0 hbm, set_0]
        refine ⟨((r :: rs).erase (bst (Vf vs) r rs)).length, _, _, ?_, ?_, (r :: rs).erase (bst (Vf vs) r rs), fs ++ [bst (Vf vs) r rs], some (.int (bst (Vf vs) r rs)), z', rfl, rfl, rfl, ?_, ?_, ?_, ?_⟩
        · rw [List.length_erase_of_mem hbm, hm, List.length_cons]; omega
        · simp only [ev_seq, ev_set, ev_op, ev_var, ev_c, List.getElem?_cons_zero, List.getElem?_cons_succ, bind_ok, e0, List.set_cons_zero, List.set_cons_succ, el, ev_exp, ev_mt, isL_lst, if_true, ev_cons, ev_nil, ea, er]
        · refine List.Perm.trans ?_ hp
          rw [List.append_assoc]
          exact List.Perm.append_left fs (List.perm_cons_erase hbm).symm
        · rw [List.pairwise_append]
          refine ⟨hs, by simp, fun a ma b mb => ?_⟩
          rw [List.mem_singleton] at mb
          subst mb
          exact hb a ma _ hbm
        · intro f mf k mk
          have hnd : (r :: rs).Nodup := hr.imp fun h => by omega
          have mk' := List.mem_of_mem_erase mk
          have nk : k ≠ bst (Vf vs) r rs := fun e => by
            rw [e] at mk
            exact (List.Nodup.not_mem_erase hnd) mk
          rcases List.mem_append.mp mf with mf | mf
          · exact hb f mf k mk'
          · rw [List.mem_singleton] at mf
            subst mf
            rcases List.mem_cons.mp mk' with e | mk''
            · subst e
              rcases hbb.1 with e | e
              · exact absurd e.symm nk
              · exact e
            · exact hbb.2 k mk'' nk
        · exact hr.sublist List.erase_sublist)
  have hC : Clo (h ++ [.lst (rs.map eI), .lst (fs.map eI)]) := clo2 c (eIs_pu _) (eIs_pu _)
  have hrs : rs = [] := by
    have ha : allocD [] (h ++ [.lst (rs.map eI), .lst (fs.map eI)]) = .ok (.lst (h ++ [HE.lst (rs.map eI), .lst (fs.map eI)]).length) (h ++ [.lst (rs.map eI), .lst (fs.map eI)] ++ [.lst []]) := v_alloc (by simp)
    have hn : dNe (.lst h.length) (.lst (h ++ [HE.lst (rs.map eI), .lst (fs.map eI)]).length) (h ++ [.lst (rs.map eI), .lst (fs.map eI)] ++ [.lst []]) = .ok (.bl (!decide (rs.map eI = []))) (h ++ [.lst (rs.map eI), .lst (fs.map eI)] ++ [.lst []]) :=
      v_neL (by simp) (by simp) (flatL_eI _) (fun _ m => by cases m)
    simp only [ev_gct, ev_tst, ev_op, ev_var, ev_lst, ev_nil, List.getElem?_cons_zero, List.getElem?_cons_succ, bind_ok, ha, hn, ev_toB, gct_drop hC, Res.ok.injEq] at hc
    have := hc.1
    simpa using this
  subst hrs
  refine ⟨fs, ⟨by simpa using hp, hs⟩, ?_⟩
  have hg : gcR h.length (.ok (.lst (h.length + 1)) (h ++ [.lst ([].map eI), .lst (fs.map eI)])) = .ok (.lst h.length) (h ++ [.lst (fs.map eI)]) := by
    have := gc_new (h := h) (g := [.lst []]) (ds := fs.map eI) c (clL_pu _ _ (eIs_pu _))
    simpa using this
  simp only [startD_cons, startD_nil, List.replicate_succ, List.replicate_zero, ev_seq, ev_par, ev_cons, ev_gc, ev_lr1, ev_cb, ev_var, ev_nil, List.getElem?_cons_zero, List.getElem?_cons_succ, bind_ok, e1, e2, ev_lst, e3, List.set_cons_zero, List.set_cons_succ, e, ev_ret, ev_retR_rt, hg]
end
end Lw

/-! k47_E2: the law's places, the shares. -/
namespace Lw
open PySem PySem.Spec PyProof.Rows L2 Sm Sq
theorem fFor_seqH {fe : FE} {tgt : FG} {body : FS} {σ : Sg} {h0 h : MH} {d : D} {ds : List D} (s : Sqn h d ds) (e : fe σ h0 = .ok d h) (I : Nat → Sg → Prop) (i0 : I 0 σ)
    (hs : ∀ (j : Nat) (d : D) (σ : Sg), ds[j]? = some d → I j σ → ∃ σ1 σ2, tgt d σ h = .ok σ1 h ∧ body σ1 h = .ok (.nx σ2) h ∧ I (j + 1) σ2) :
    ∃ σ', fFor (iSeq fe) tgt body σ h0 = .ok (.nx σ') h ∧ I ds.length σ' := by
  obtain ⟨it, e1, e2, e3⟩ : ∃ it, iSeq fe σ h0 = .ok it h ∧ it.items h = some ds ∧ it.chk ds h = true := by
    rcases s with rfl | rfl | ⟨n, rfl, e'⟩
    · exact ⟨.vals ds, by simp [iSeq, e], rfl, rfl⟩
    · exact ⟨.vals ds, by simp [iSeq, e], rfl, rfl⟩
    · exact ⟨.lst n, by simp [iSeq, e], items_lst e', chk_lst e'⟩
  rw [fFor_eq e1 e2]
  exact forGo_pure e3 I ds σ i0 hs
/-- the heap moves, the list stays -/
theorem fFor_lstH {fe : FE} {tgt : FG} {body : FS} {σ : Sg} {h0 h : MH} {ds : List D} {n : Nat} (e : fe σ h0 = .ok (.lst n) h) (hd : h[n]? = some (.lst ds)) (I : Nat → Sg → MH → Prop) (i0 : I 0 σ h)
    (hc : ∀ j σ h, I j σ h → h[n]? = some (.lst ds))
    (hs : ∀ (j : Nat) (d : D) (σ : Sg) (h : MH), ds[j]? = some d → I j σ h → ∃ σ1 h1 σ2 h2, tgt d σ h = .ok σ1 h1 ∧ body σ1 h1 = .ok (.nx σ2) h2 ∧ I (j + 1) σ2 h2) :
    ∃ σ' h', fFor (iSeq fe) tgt body σ h0 = .ok (.nx σ') h' ∧ I ds.length σ' h' := by
  have : iSeq fe σ h0 = .ok (.lst n) h := by simp [iSeq, e]
  rw [fFor_eq this (items_lst hd)]
  obtain ⟨σ', h', a, b⟩ := forGo_inv (chk := fun h => (It'.lst n).chk ds h) (tgt := tgt) (body := body) I ds 0 σ h i0 (fun j σ h z => chk_lst (hc j σ h z)) (fun j d σ h e z => by
    rw [Nat.zero_add] at z ⊢
    obtain ⟨σ1, h1, σ2, h2, a, b, c⟩ := hs j d σ h e z
    exact ⟨σ1, h1, .nx σ2, h2, σ2, a, b, .inl rfl, c⟩)
  rw [Nat.zero_add] at b
  exact ⟨σ', h', a, b⟩
section
variable {vs cs : List Rat} {h : MH} {v ch : D} {s : Rat}
theorem clo1 (c : Clo h) {as : List D} (pa : D.puL as = true) : Clo (h ++ [.lst as]) := c.push pa
theorem e_Lplaces (c : Clo h) (sv : Sqn h v (vs.map eQ)) (z : SzL 4000 vs) (l : vs.length < 1000000) : ∃ pl, Srt (Vf vs) vs.length pl ∧ m_Lplaces [v] h = .ok (.lst h.length) (h ++ [.lst (pl.map eI)]) := by
  unfold m_Lplaces mOf b_Lplaces
  have e1 : cLen [v] (h ++ [HE.lst []]) = .ok (.int vs.length) (h ++ [.lst []]) := v_lenM (sqn_app sv)
  obtain ⟨σ', h', e, fs, z2, z3, z4, rfl, rfl, hp, hs⟩ := fFor_rgI (fa := fCB cLen (fCons (fVar 0) fNil)) (tgt := gNm 2) (body := fSeq (fSet 3 (fGc (fCB cLen (fCons (fGc (fLc [4] (iSeq (fVar 1)) (gNm 4) (fNotT (fTru (fGc (fCall 2 m_Lless (fCons (fOp dIx (fVar 0) (fVar 2)) (fCons (fOp dIx (fVar 0) (fVar 4)) fNil)))))) (fVar 4))) fNil)))) (fExp (fMt mInsert (fVar 1) (fCons (fVar 3) (fCons (fVar 2) fNil))))) (σ := [some v, some (.lst h.length), none, none, none]) (h := h ++ [.lst []]) (n := vs.length) (by simp [e1]) (by omega)
    (fun j σ h' => ∃ (fs : List Nat) (z2 z3 z4 : Option D), σ = [some v, some (.lst h.length), z2, z3, z4] ∧ h' = h ++ [.lst (fs.map eI)] ∧ fs.Perm (List.range j) ∧ fs.Pairwise (bef (Vf vs))) ⟨[], none, none, none, rfl, rfl, by simp, .nil⟩ (by
      rintro j σ _ hj ⟨fs, z2, z3, z4, rfl, rfl, hp, hs⟩
      have hC : Clo (h ++ [.lst (fs.map eI)]) := clo1 c (eIs_pu _)
      have hlen : fs.length = j := by have := hp.length_eq; simpa using this
      have hfs : ∀ k ∈ fs, k < j := fun k m => List.mem_range.mp (hp.mem_iff.mp m)
      have h1 := fLc_mp (own := [4]) (fe := fVar 1) (tgt := gNm 4) (tst := fNotT (fTru (fGc (fCall 2 m_Lless (fCons (fOp dIx (fVar 0) (fVar 2)) (fCons (fOp dIx (fVar 0) (fVar 4)) fNil)))))) (elt := fVar 4) (σ := [some v, some (.lst h.length), some (.int j), z3, z4]) (h := h ++ [.lst (fs.map eI)]) (d := .lst h.length) eI fs sqn_new (by simp) (by omega) (fun i => !decide (Vf vs j < Vf vs i)) eI (by
        intro i m
        refine ⟨_, rfl, ?_, fun _ => by simp [wipeD]⟩
        simp [-List.length_append, wipeD, eI, v_ixV (sqn_app sv) hj, v_ixV (sqn_app sv) (Nat.lt_trans (hfs i m) hj), e_Lless (ok_Vf z (Nat.le_refl _) _) (ok_Vf z (Nat.le_refl _) _)])
      refine ⟨_, _, [some v, some (.lst h.length), some (.int j), some (.int (fs.filter fun i => !decide (Vf vs j < Vf vs i)).length), z4], h ++ [.lst ((fs.take (fs.filter fun i => !decide (Vf vs j < Vf vs i)).length ++ [j] ++ fs.drop (fs.filter fun i => !decide (Vf vs j < Vf vs i)).length).map eI)], rfl, ?_, _, _, _, _, rfl, rfl, ?_, ins_sorted hs hfs⟩
      · have hi := v_insert (h := h ++ [.lst (fs.map eI)]) (n := h.length) (b := j) (i := (fs.filter fun i => !decide (Vf vs j < Vf vs i)).length) get_0 (by omega) (List.length_filter_le ..)
        have hset : (h ++ [HE.lst (fs.map eI)]).set h.length (.lst ((fs.take (fs.filter fun i => !decide (Vf vs j < Vf vs i)).length ++ [j] ++ fs.drop (fs.filter fun i => !decide (Vf vs j < Vf vs i)).length).map eI)) = h ++ [.lst ((fs.take (fs.filter fun i => !decide (Vf vs j < Vf vs i)).length ++ [j] ++ fs.drop (fs.filter fun i => !decide (Vf vs j < Vf vs i)).length).map eI)] := by
          rw [List.set_append_right _ _ (by omega), Nat.sub_self]; rfl
        rw [hset] at hi
        have hl := len_gc (h := h ++ [.lst (fs.map eI)]) hC (ds := (fs.filter fun i => !decide (Vf vs j < Vf vs i)).map eI)
        rw [List.length_map] at hl
        simp only [List.set_cons_succ, List.set_cons_zero, ev_seq, ev_set, ev_gc, ev_cb, ev_cons, ev_nil, h1, gc_np hC (eIs_pu _), bind_ok, hl, ev_exp, ev_mt, ev_var, List.getElem?_cons_succ, List.getElem?_cons_zero, isL_lst, if_true, hi]
      · refine ins_perm.trans ?_
        rw [List.range_succ]
        exact (List.perm_append_singleton ..).symm.trans (List.Perm.append_right _ hp) |>.trans (List.Perm.refl _))
  refine ⟨fs, ⟨hp, hs⟩, ?_⟩
  simp only [startD_cons, startD_nil, List.replicate_succ, List.replicate_zero, ev_seq, ev_set, ev_lst, ev_nil, bind_ok, v_alloc (h := h) (ds := []) (by simp), List.set_cons_zero, List.set_cons_succ, e, ev_ret, ev_var, List.getElem?_cons_zero, List.getElem?_cons_succ, ev_retR_rt, gc_np c (eIs_pu _)]
/-- the least of two -/
theorem least2 {h : MH} (c : Clo h) {p q : Rat} (hp : Ok p) (hq : Ok q) : gcR h.length (m_least [.lst h.length] (h ++ [.lst [eQ p, eQ q]])) = .ok (eQ (mn p q)) h := by
  rw [e_least (q := p) (qs := [q]) (show Sqn (h ++ [.lst [eQ p, eQ q]]) (.lst h.length) ([p, q].map eQ) from sqn_new) (fun x m => by
    rcases List.mem_cons.mp m with rfl | m
    · exact hp
    · rcases List.mem_cons.mp m with rfl | m
      · exact hq
      · cases m), gc_dp c (eQ_pu _)]
  rfl
theorem Lleast2 {h : MH} (c : Clo h) {p q : Rat} (hp : Ok p) (hq : Ok q) : gcR h.length (m_Lleast [.lst h.length] (h ++ [.lst [eQ p, eQ q]])) = .ok (eQ (mn p q)) h := by
  rw [e_Lleast (q := p) (qs := [q]) (show Sqn (h ++ [.lst [eQ p, eQ q]]) (.lst h.length) ([p, q].map eQ) from sqn_new) (fun x m => by
    rcases List.mem_cons.mp m with rfl | m
    · exact hp
    · rcases List.mem_cons.mp m with rfl | m
      · exact hq
      · cases m), gc_dp c (eQ_pu _)]
  rfl
theorem sz_Vf {b : Nat} {vs : List Rat} (z : SzL b vs) (h1 : 1 ≤ b) (k : Nat) : Sz b (Vf vs k) := by
  unfold Vf
  by_cases hi : k < vs.length
  · rw [List.getElem?_eq_getElem hi]; exact z _ (List.getElem_mem _)
  · rw [List.getElem?_eq_none (by omega)]; exact sz_0.mono h1
/-- the sum by greedy shares -/
def wv (vs cs : List Rat) (s : Rat) (pl : List Nat) : Rat := sm (fun k => gw (fun k => Vf cs k / s) 1 pl k * Vf vs k) pl
theorem srt_lt {V : Nat → Rat} {n : Nat} {pl : List Nat} (p : Srt V n pl) {k : Nat} (m : k ∈ pl) : k < n := List.mem_range.mp (p.1.mem_iff.mp m)
theorem srt_nd {V : Nat → Rat} {n : Nat} {pl : List Nat} (p : Srt V n pl) : pl.Nodup := p.1.nodup_iff.mpr List.nodup_range
theorem srt_len {V : Nat → Rat} {n : Nat} {pl : List Nat} (p : Srt V n pl) : pl.length = n := by have := p.1.length_eq; simpa using this
theorem e_worst {a b u A : Nat} (c : Clo h) (sv : Sqn h v (vs.map eQ)) (sc : Sqn h ch (cs.map eQ)) (hl : cs.length = vs.length) (zv : SzL u vs) (zc : SzL b cs) (zs : Sz a s) (s0 : 0 < s)
    (a1 : 1 ≤ a) (b1 : 1 ≤ b) (u1 : 1 ≤ u) (hA : a + vs.length * (b + 1) ≤ A) (hB : 1 + vs.length * (A + b + u + 1) ≤ 4000) (hA' : A + b + u ≤ 4000) {pl : List Nat} (p : Srt (Vf vs) vs.length pl) :
    m_worst [v, ch, eQ s] h = .ok (eQ (wv vs cs s pl)) h := by
  have vl : vs.length < 1000000 := by
    have := Nat.mul_le_mul_left vs.length (show 1 ≤ A + b + u + 1 by omega)
    omega
  unfold m_worst mOf b_worst
  obtain ⟨pl', p', e1⟩ := e_sorted_places c sv (zv.mono (by omega)) vl
  have : pl' = pl := srt_unique p' p
  subst this
  have hC : Clo (h ++ [.lst (pl'.map eI)]) := clo1 c (eIs_pu _)
  have hsz : ∀ j, Sz A ((pl'.take j).foldl (stW (Vf cs) (Vf vs)) (s, 0)).1 ∧ Sz 4000 ((pl'.take j).foldl (stW (Vf cs) (Vf vs)) (s, 0)).2 := fun j => by
    have hj : (pl'.take j).length ≤ vs.length := by rw [List.length_take, srt_len p]; omega
    have h1 := Nat.mul_le_mul_right (b + 1) hj
    have h2 := Nat.mul_le_mul_right (A + b + u + 1) hj
    have := sz_stW (A := A) (sz_Vf zc b1) (sz_Vf zv u1) (ks := pl'.take j) (L := s) (f := 0) (a := a) (d := 1) zs sz_0 a1 (by omega)
    exact ⟨this.1, this.2.mono (by omega)⟩
  obtain ⟨σ', e2, z5, z6, rfl⟩ := fFor_seqH (fe := fGc (fCall 1 m_sorted_places (fCons (fVar 0) fNil))) (tgt := gNm 5) (body := fSeq (fSet 6 (fGc (fCall 1 m_least (fCons (fLst (fCons (fVar 3) (fCons (fOp dIx (fVar 1) (fVar 5)) fNil))) fNil)))) (fSeq (fSet 4 (fGc (fCall 2 m_plus (fCons (fVar 4) (fCons (fGc (fCall 2 m_times (fCons (fVar 6) (fCons (fOp dIx (fVar 0) (fVar 5)) fNil)))) fNil))))) (fSet 3 (fGc (fCall 2 m_minus (fCons (fVar 3) (fCons (fVar 6) fNil))))))) (σ := [some v, some ch, some (eQ s), some (eQ s), some (eQ 0), none, none]) (h0 := h) (h := h ++ [.lst (pl'.map eI)]) (d := .lst h.length) (ds := pl'.map eI) sqn_new (by simp [e1, gc_np c (eIs_pu _)])
    (fun j σ => ∃ z5 z6, σ = [some v, some ch, some (eQ s), some (eQ ((pl'.take j).foldl (stW (Vf cs) (Vf vs)) (s, 0)).1), some (eQ ((pl'.take j).foldl (stW (Vf cs) (Vf vs)) (s, 0)).2), z5, z6]) ⟨none, none, rfl⟩ (by
      rintro j d σ ej ⟨z5, z6, rfl⟩
      rw [List.getElem?_map, Option.map_eq_some_iff] at ej
      obtain ⟨k, ek, rfl⟩ := ej
      have hk : k < vs.length := srt_lt p (List.mem_of_getElem? ek)
      have ht : (pl'.take (j + 1)).foldl (stW (Vf cs) (Vf vs)) (s, 0) = stW (Vf cs) (Vf vs) ((pl'.take j).foldl (stW (Vf cs) (Vf vs)) (s, 0)) k := by
        rw [List.take_succ, ek, List.foldl_append]; rfl
      have hs := hsz j
      generalize hg : (pl'.take j).foldl (stW (Vf cs) (Vf vs)) (s, 0) = st at ht hs
      have o1 : Ok st.1 := hs.1.mono (by omega)
      have o2 : Ok (Vf cs k) := ok_Vf zc (by omega) k
      have o3 : Ok (mn st.1 (Vf cs k)) := (sz_mn hs.1 (sz_Vf zc b1 k)).mono (by omega)
      have o4 : Ok (mn st.1 (Vf cs k) * Vf vs k) := (sz_mul (sz_mn hs.1 (sz_Vf zc b1 k)) (sz_Vf zv u1 k)).mono (by omega)
      refine ⟨_, _, rfl, ?_, some (eI k), some (eQ (mn st.1 (Vf cs k))), rfl⟩
      have ha : allocD [eQ st.1, eQ (Vf cs k)] (h ++ [.lst (pl'.map eI)]) = .ok (.lst (h ++ [HE.lst (pl'.map eI)]).length) (h ++ [.lst (pl'.map eI)] ++ [.lst [eQ st.1, eQ (Vf cs k)]]) := v_alloc (by simp)
      simp only [ht, stW, List.set_cons_succ, List.set_cons_zero, ev_seq, ev_set, ev_gc, ev_call, ev_cons, ev_lst, ev_op, ev_var, ev_nil, List.getElem?_cons_succ, List.getElem?_cons_zero, bind_ok, List.length_cons, List.length_nil, eI, v_ixV (sqn_app sc) (hl ▸ hk), v_ixV (sqn_app sv) hk, ha, if_true, least2 hC o1 o2, e_times o3 (ok_Vf zv (by omega) k), gc_same, e_plus hs.2 o4, e_minus o1 o3])
  have hfin : ((pl'.take (pl'.map eI).length).foldl (stW (Vf cs) (Vf vs)) (s, 0)).2 = s * wv vs cs s pl' := by
    rw [List.length_map, List.take_length, stW_end (srt_nd p), Rat.zero_add]
    unfold wv
    rw [← sm_mul]
    refine sm_congr fun k _ => ?_
    have := gw_scale (c := Vf cs) s0 (ks := pl') (L := 1) (j := k)
    rw [Rat.mul_one] at this
    rw [this]
    grind
  have hok := (hsz (pl'.map eI).length).2
  rw [hfin] at hok
  have h0 : (D.tup [.int 0, .int 1]) = eQ 0 := rfl
  have hdiv : s * wv vs cs s pl' / s = wv vs cs s pl' := by grind
  have ho := e_over hok (q := s) (zs.mono (by omega)) (by grind) (h ++ [.lst (pl'.map eI)])
  rw [hdiv] at ho
  simp only [startD_cons, startD_nil, List.replicate_succ, List.replicate_zero, ev_seq, ev_par, ev_cons, ev_tup, ev_c, ev_var, ev_nil, List.getElem?_cons_zero, List.getElem?_cons_succ, bind_ok, List.length_cons, List.length_nil, Nat.reduceAdd, Nat.reduceLeDiff, if_true, h0, List.set_cons_zero, List.set_cons_succ, e2, ev_ret, ev_gc, ev_call, hfin, ho, gc_same, ev_retR_rt, gc_dp c (eQ_pu _)]
end
end Lw

/-! k47_E3: weights and what accepts them. -/
namespace Lw
open PySem PySem.Spec PyProof.Rows L2 Sm Sq
section
variable {vs cs : List Rat} {h : MH} {v ch : D} {s : Rat}
/-- the greedy weights -/
def wl (cs : List Rat) (s : Rat) (n : Nat) (pl : List Nat) : List Rat := (List.range n).map fun j => gw (fun k => Vf cs k / s) 1 pl j
/-- [(0, 1)] * n, swept -/
theorem rep_gc {h : MH} (c : Clo h) {n : Nat} (l : n ≤ 1000) {x : D} (px : x.pu = true) : gcR h.length (dMul (.lst h.length) (.int n) (h ++ [.lst [x]])) = .ok (.lst h.length) (h ++ [.lst (List.replicate n x)]) := by
  have e : (List.replicate (n : Int).toNat [x]).flatten = List.replicate n x := by
    rw [Int.toNat_natCast]
    clear l
    induction n with
    | zero => rfl
    | succ n ih => rw [List.replicate_succ, List.flatten_cons, ih]; rfl
  have h1 : dMul (.lst h.length) (.int n) (h ++ [.lst [x]]) = .ok (.lst (h.length + 1)) (h ++ [.lst [x]] ++ [.lst (List.replicate n x)]) := by
    simp only [dMul, get_0]
    rw [if_pos ⟨by omega, by omega, by simp⟩, e, v_alloc (by simp; omega)]
    simp
  rw [h1]
  exact gc_new (h := h) (g := [.lst [x]]) (ds := List.replicate n x) c (clL_pu _ _ ((puL_iff _).mpr fun d m => by rw [List.eq_of_mem_replicate m]; exact px))
theorem rep_eQ {n : Nat} {q : Rat} : List.replicate n (eQ q) = (List.replicate n q).map eQ := by simp
theorem set_a {a b : HE} {g : MH} : (h ++ a :: g).set h.length b = h ++ b :: g := by
  rw [List.set_append_right _ _ (by omega), Nat.sub_self]; rfl
theorem setD_eQ {g : MH} {w : List Rat} {k : Nat} {q : Rat} (l : k < w.length) : setD (.lst h.length) (.int k) (eQ q) (h ++ .lst (w.map eQ) :: g) = .ok () (h ++ .lst ((w.set k q).map eQ) :: g) := by
  simp only [setD, get_0, List.length_map, ixN_nat l, set_a, List.map_set]
/-- the weights told by the program -/
theorem e_worst_weights {a b u A : Nat} (c : Clo h) (sv : Sqn h v (vs.map eQ)) (sc : Sqn h ch (cs.map eQ)) (hl : cs.length = vs.length) (zv : SzL u vs) (zc : SzL b cs) (zs : Sz a s) (s0 : 0 < s)
    (a1 : 1 ≤ a) (b1 : 1 ≤ b) (u1 : 1 ≤ u) (hA : a + vs.length * (b + 1) ≤ A) (hA' : A + b + u ≤ 4000) (vl : vs.length ≤ 1000) {pl : List Nat} (p : Srt (Vf vs) vs.length pl) :
    m_worst_weights [v, ch, eQ s] h = .ok (eR (wl cs s vs.length pl)) h := by
  unfold m_worst_weights mOf b_worst_weights
  have e0 : cLen [v] (h ++ [HE.lst [eQ 0]]) = .ok (.int vs.length) (h ++ [.lst [eQ 0]]) := v_lenM (sqn_app sv)
  have hw0 : gcR h.length (dMul (.lst h.length) (.int vs.length) (h ++ [.lst [eQ 0]])) = .ok (.lst h.length) (h ++ [.lst ((List.replicate vs.length (0 : Rat)).map eQ)]) := by rw [rep_gc c vl (eQ_pu _), rep_eQ]
  have hC0 : Clo (h ++ [.lst ((List.replicate vs.length (0 : Rat)).map eQ)]) := clo1 c (eQs_pu _)
  obtain ⟨pl', p', e1⟩ := e_sorted_places (v := v) hC0 (sqn_app sv) (zv.mono (by omega)) (by omega)
  have : pl' = pl := srt_unique p' p
  subst this
  have hsz : ∀ j, Sz A ((pl'.take j).foldl (stG (Vf cs) (fun x => x / s)) (s, List.replicate vs.length 0)).1 := fun j => by
    have hj : (pl'.take j).length ≤ vs.length := by rw [List.length_take, srt_len p]; omega
    have h1 := Nat.mul_le_mul_right (b + 1) hj
    rw [stG_fst (V := Vf vs) (f := 0)]
    exact (sz_stW (A := A) (sz_Vf zc b1) (sz_Vf zv u1) (ks := pl'.take j) (L := s) (f := 0) (a := a) (d := 1) zs sz_0 a1 (by omega)).1
  have hln : ∀ j, ((pl'.take j).foldl (stG (Vf cs) (fun x => x / s)) (s, List.replicate vs.length 0)).2.length = vs.length := fun j => by rw [stG_len, List.length_replicate]
  obtain ⟨σ', h', e2, z5, z6, rfl, rfl⟩ := fFor_lstH (fe := fGc (fCall 1 m_sorted_places (fCons (fVar 0) fNil))) (tgt := gNm 5) (body := fSeq (fSet 6 (fGc (fCall 1 m_least (fCons (fLst (fCons (fVar 3) (fCons (fOp dIx (fVar 1) (fVar 5)) fNil))) fNil)))) (fSeq (fAsg (fGc (fCall 2 m_over (fCons (fVar 6) (fCons (fVar 2) fNil)))) (gSb (fVar 4) (fVar 5))) (fSet 3 (fGc (fCall 2 m_minus (fCons (fVar 3) (fCons (fVar 6) fNil))))))) (σ := [some v, some ch, some (eQ s), some (eQ s), some (.lst h.length), none, none]) (h0 := h ++ [.lst ((List.replicate vs.length (0 : Rat)).map eQ)]) (h := h ++ [.lst ((List.replicate vs.length (0 : Rat)).map eQ)] ++ [.lst (pl'.map eI)]) (n := (h ++ [HE.lst ((List.replicate vs.length (0 : Rat)).map eQ)]).length) (ds := pl'.map eI) (by simp only [ev_gc, ev_call, ev_cons, ev_var, ev_nil, List.getElem?_cons_zero, bind_ok, List.length_cons, List.length_nil, if_true, e1, gc_np hC0 (eIs_pu _)]) (by simp)
    (fun j σ h' => ∃ z5 z6, σ = [some v, some ch, some (eQ s), some (eQ ((pl'.take j).foldl (stG (Vf cs) (fun x => x / s)) (s, List.replicate vs.length 0)).1), some (.lst h.length), z5, z6] ∧ h' = h ++ [.lst (((pl'.take j).foldl (stG (Vf cs) (fun x => x / s)) (s, List.replicate vs.length 0)).2.map eQ), .lst (pl'.map eI)]) ⟨none, none, rfl, by simp⟩ (by
      rintro j σ _ ⟨z5, z6, rfl, rfl⟩
      simp) (by
      rintro j d σ _ ej ⟨z5, z6, rfl, rfl⟩
      rw [List.getElem?_map, Option.map_eq_some_iff] at ej
      obtain ⟨k, ek, rfl⟩ := ej
      have hk : k < vs.length := srt_lt p (List.mem_of_getElem? ek)
      have ht : (pl'.take (j + 1)).foldl (stG (Vf cs) (fun x => x / s)) (s, List.replicate vs.length 0) = stG (Vf cs) (fun x => x / s) ((pl'.take j).foldl (stG (Vf cs) (fun x => x / s)) (s, List.replicate vs.length 0)) k := by
        rw [List.take_succ, ek, List.foldl_append]; rfl
      have hs := hsz j
      have hn := hln j
      generalize hg : (pl'.take j).foldl (stG (Vf cs) (fun x => x / s)) (s, List.replicate vs.length 0) = st at ht hs hn
      have hC : Clo (h ++ [.lst (st.2.map eQ), .lst (pl'.map eI)]) := clo2 c (eQs_pu _) (eIs_pu _)
      have o1 : Ok st.1 := hs.mono (by omega)
      have o2 : Ok (Vf cs k) := ok_Vf zc (by omega) k
      have o3 : Ok (mn st.1 (Vf cs k)) := (sz_mn hs (sz_Vf zc b1 k)).mono (by omega)
      refine ⟨_, _, _, _, rfl, ?_, some (eI k), some (eQ (mn st.1 (Vf cs k))), rfl, rfl⟩
      have ha : allocD [eQ st.1, eQ (Vf cs k)] (h ++ [.lst (st.2.map eQ), .lst (pl'.map eI)]) = .ok (.lst (h ++ [HE.lst (st.2.map eQ), .lst (pl'.map eI)]).length) (h ++ [.lst (st.2.map eQ), .lst (pl'.map eI)] ++ [.lst [eQ st.1, eQ (Vf cs k)]]) := v_alloc (by simp)
      have hset := setD_eQ (h := h) (g := [.lst (pl'.map eI)]) (w := st.2) (k := k) (q := mn st.1 (Vf cs k) / s) (by omega)
      simp only [ht, stG, List.set_cons_succ, List.set_cons_zero, ev_seq, ev_set, ev_asg, ev_gsb, ev_gc, ev_call, ev_cons, ev_lst, ev_op, ev_var, ev_nil, List.getElem?_cons_succ, List.getElem?_cons_zero, bind_ok, List.length_cons, List.length_nil, eI, v_ixV (sqn_app sc) (hl ▸ hk), ha, if_true, least2 hC o1 o2, e_over o3 (zs.mono (by omega)) (show s ≠ 0 by grind), gc_same, hset, e_minus o1 o3])
  have hfin : ((pl'.take (pl'.map eI).length).foldl (stG (Vf cs) (fun x => x / s)) (s, List.replicate vs.length 0)).2 = wl cs s vs.length pl' := by
    rw [List.length_map, List.take_length, stG_end (by simpa using p.1), List.length_replicate]
    unfold wl
    apply List.map_congr_left
    intro j _
    have := gw_scale (c := Vf cs) s0 (ks := pl') (L := 1) (j := j)
    rw [Rat.mul_one] at this
    rw [this]
    grind
  rw [hfin] at e2
  have h0 : (D.tup [.int 0, .int 1]) = eQ 0 := rfl
  have ha : allocD [eQ 0] h = .ok (.lst h.length) (h ++ [.lst [eQ 0]]) := v_alloc (by simp)
  have hT : cTup [.lst h.length] (h ++ [.lst ((wl cs s vs.length pl').map eQ), .lst (pl'.map eI)]) = .ok (eR (wl cs s vs.length pl')) (h ++ [.lst ((wl cs s vs.length pl').map eQ), .lst (pl'.map eI)]) := v_tup_lst get_0
  simp only [startD_cons, startD_nil, List.replicate_succ, List.replicate_zero, ev_seq, ev_par, ev_cons, ev_gc, ev_op, ev_lst, ev_tup, ev_c, ev_var, ev_nil, ev_cb, List.getElem?_cons_zero, List.getElem?_cons_succ, bind_ok, List.length_cons, List.length_nil, Nat.reduceAdd, Nat.reduceLeDiff, if_true, h0, ha, e0, hw0, List.set_cons_zero, List.set_cons_succ, e2, ev_ret, hT, ev_retR_rt, gc_dp c (eR_pu _)]
/-- the weights told by the law -/
theorem e_Lweights {a b u A : Nat} (c : Clo h) (sv : Sqn h v (vs.map eQ)) (sc : Sqn h ch (cs.map eQ)) (hl : cs.length = vs.length) (zv : SzL u vs) (zc : SzL b cs) (zs : Sz a s) (s0 : 0 < s)
    (b1 : 1 ≤ b) (u1 : 1 ≤ u) (hA : 1 + vs.length * (b + a + 1) ≤ A) (hA' : A + b + a + u ≤ 4000) (vl : vs.length ≤ 1000) {pl : List Nat} (p : Srt (Vf vs) vs.length pl) :
    m_Lweights [v, ch, eQ s] h = .ok (eR (wl cs s vs.length pl)) h ∧ SzL (A + b + a) (wl cs s vs.length pl) := by
  have zc' : ∀ k, Sz (b + a) (Vf cs k / s) := fun k => sz_div (sz_Vf zc b1 k) zs
  have hsz : ∀ j, Sz A ((pl.take j).foldl (stG (fun k => Vf cs k / s) (fun x => x)) (1, List.replicate vs.length 0)).1 := fun j => by
    have hj : (pl.take j).length ≤ vs.length := by rw [List.length_take, srt_len p]; omega
    have h1 := Nat.mul_le_mul_right (b + a + 1) hj
    rw [stG_fst (V := Vf vs) (f := 0)]
    exact (sz_stW (A := A) zc' (sz_Vf zv u1) (ks := pl.take j) (L := 1) (f := 0) (a := 1) (d := 1) sz_1 sz_0 (by omega) (by omega)).1
  have hend : ((pl.take pl.length).foldl (stG (fun k => Vf cs k / s) (fun x => x)) (1, List.replicate vs.length 0)).2 = wl cs s vs.length pl := by
    rw [List.take_length, stG_end (by simpa using p.1), List.length_replicate]; rfl
  have hws : ∀ j, SzL (A + b + a) ((pl.take j).foldl (stG (fun k => Vf cs k / s) (fun x => x)) (1, List.replicate vs.length 0)).2 := by
    intro j
    induction j with
    | zero =>
      intro q m
      have : q = 0 := List.eq_of_mem_replicate m
      rw [this]; exact sz_0.mono (by omega)
    | succ j ih =>
      rw [List.take_succ]
      cases ek : pl[j]? with
      | none => simpa using ih
      | some k =>
        rw [List.foldl_append]
        intro q m
        rcases List.mem_or_eq_of_mem_set m with m | m
        · exact ih q m
        · rw [m]; exact (sz_mn (hsz j) (zc' k)).mono (by omega)
  refine ⟨?_, by rw [← hend]; exact hws _⟩
  unfold m_Lweights mOf b_Lweights
  have e0 : cLen [v] (h ++ [HE.lst [eQ 0]]) = .ok (.int vs.length) (h ++ [.lst [eQ 0]]) := v_lenM (sqn_app sv)
  have hw0 : gcR h.length (dMul (.lst h.length) (.int vs.length) (h ++ [.lst [eQ 0]])) = .ok (.lst h.length) (h ++ [.lst ((List.replicate vs.length (0 : Rat)).map eQ)]) := by rw [rep_gc c vl (eQ_pu _), rep_eQ]
  have hC0 : Clo (h ++ [.lst ((List.replicate vs.length (0 : Rat)).map eQ)]) := clo1 c (eQs_pu _)
  obtain ⟨pl', p', e1⟩ := e_Lplaces (v := v) hC0 (sqn_app sv) (zv.mono (by omega)) (by omega)
  have : pl' = pl := srt_unique p' p
  subst this
  have hln : ∀ j, ((pl'.take j).foldl (stG (fun k => Vf cs k / s) (fun x => x)) (1, List.replicate vs.length 0)).2.length = vs.length := fun j => by rw [stG_len, List.length_replicate]
  obtain ⟨σ', h', e2, z5, z6, rfl, rfl⟩ := fFor_lstH (fe := fGc (fCall 1 m_Lplaces (fCons (fVar 0) fNil))) (tgt := gNm 5) (body := fSeq (fSet 6 (fGc (fCall 1 m_Lleast (fCons (fLst (fCons (fVar 4) (fCons (fGc (fCall 2 m_Lover (fCons (fOp dIx (fVar 1) (fVar 5)) (fCons (fVar 2) fNil)))) fNil))) fNil)))) (fSeq (fAsg (fVar 6) (gSb (fVar 3) (fVar 5))) (fSet 4 (fGc (fCall 2 m_Ladd (fCons (fVar 4) (fCons (fGc (fCall 1 m_Lneg (fCons (fVar 6) fNil))) fNil))))))) (σ := [some v, some ch, some (eQ s), some (.lst h.length), some (eQ 1), none, none]) (h0 := h ++ [.lst ((List.replicate vs.length (0 : Rat)).map eQ)]) (h := h ++ [.lst ((List.replicate vs.length (0 : Rat)).map eQ)] ++ [.lst (pl'.map eI)]) (n := (h ++ [HE.lst ((List.replicate vs.length (0 : Rat)).map eQ)]).length) (ds := pl'.map eI) (by simp only [ev_gc, ev_call, ev_cons, ev_var, ev_nil, List.getElem?_cons_zero, bind_ok, List.length_cons, List.length_nil, if_true, e1, gc_np hC0 (eIs_pu _)]) (by simp)
    (fun j σ h' => ∃ z5 z6, σ = [some v, some ch, some (eQ s), some (.lst h.length), some (eQ ((pl'.take j).foldl (stG (fun k => Vf cs k / s) (fun x => x)) (1, List.replicate vs.length 0)).1), z5, z6] ∧ h' = h ++ [.lst (((pl'.take j).foldl (stG (fun k => Vf cs k / s) (fun x => x)) (1, List.replicate vs.length 0)).2.map eQ), .lst (pl'.map eI)]) ⟨none, none, rfl, by simp⟩ (by
      rintro j σ _ ⟨z5, z6, rfl, rfl⟩
      simp) (by
      rintro j d σ _ ej ⟨z5, z6, rfl, rfl⟩
      rw [List.getElem?_map, Option.map_eq_some_iff] at ej
      obtain ⟨k, ek, rfl⟩ := ej
      have hk : k < vs.length := srt_lt p (List.mem_of_getElem? ek)
      have ht : (pl'.take (j + 1)).foldl (stG (fun k => Vf cs k / s) (fun x => x)) (1, List.replicate vs.length 0) = stG (fun k => Vf cs k / s) (fun x => x) ((pl'.take j).foldl (stG (fun k => Vf cs k / s) (fun x => x)) (1, List.replicate vs.length 0)) k := by
        rw [List.take_succ, ek, List.foldl_append]; rfl
      have hs := hsz j
      have hn := hln j
      generalize hg : (pl'.take j).foldl (stG (fun k => Vf cs k / s) (fun x => x)) (1, List.replicate vs.length 0) = st at ht hs hn
      have hC : Clo (h ++ [.lst (st.2.map eQ), .lst (pl'.map eI)]) := clo2 c (eQs_pu _) (eIs_pu _)
      have o1 : Ok st.1 := hs.mono (by omega)
      have o2 : Ok (Vf cs k / s) := (zc' k).mono (by omega)
      have o3 : Ok (mn st.1 (Vf cs k / s)) := (sz_mn hs (zc' k)).mono (by omega)
      refine ⟨_, _, _, _, rfl, ?_, some (eI k), some (eQ (mn st.1 (Vf cs k / s))), rfl, rfl⟩
      have ha : allocD [eQ st.1, eQ (Vf cs k / s)] (h ++ [.lst (st.2.map eQ), .lst (pl'.map eI)]) = .ok (.lst (h ++ [HE.lst (st.2.map eQ), .lst (pl'.map eI)]).length) (h ++ [.lst (st.2.map eQ), .lst (pl'.map eI)] ++ [.lst [eQ st.1, eQ (Vf cs k / s)]]) := v_alloc (by simp)
      have hset := setD_eQ (h := h) (g := [.lst (pl'.map eI)]) (w := st.2) (k := k) (q := mn st.1 (Vf cs k / s)) (by omega)
      simp only [ht, stG, List.set_cons_succ, List.set_cons_zero, ev_seq, ev_set, ev_asg, ev_gsb, ev_gc, ev_call, ev_cons, ev_lst, ev_op, ev_var, ev_nil, List.getElem?_cons_succ, List.getElem?_cons_zero, bind_ok, List.length_cons, List.length_nil, eI, v_ixV (sqn_app sc) (hl ▸ hk), e_Lover (ok_Vf zc (by omega) k) (zs.mono (by omega)) (show s ≠ 0 by grind), ha, if_true, Lleast2 hC o1 o2, gc_same, hset, e_Lneg, e_Ladd o1 ((sz_neg o3)), Rat.sub_eq_add_neg])
  have hfin : ((pl'.take (pl'.map eI).length).foldl (stG (fun k => Vf cs k / s) (fun x => x)) (1, List.replicate vs.length 0)).2 = wl cs s vs.length pl' := by
    rw [List.length_map]; exact hend
  rw [hfin] at e2
  have h0 : (D.tup [.int 0, .int 1]) = eQ 0 := rfl
  have h1 : (D.tup [.int 1, .int 1]) = eQ 1 := rfl
  have ha : allocD [eQ 0] h = .ok (.lst h.length) (h ++ [.lst [eQ 0]]) := v_alloc (by simp)
  have hT : cTup [.lst h.length] (h ++ [.lst ((wl cs s vs.length pl').map eQ), .lst (pl'.map eI)]) = .ok (eR (wl cs s vs.length pl')) (h ++ [.lst ((wl cs s vs.length pl').map eQ), .lst (pl'.map eI)]) := v_tup_lst get_0
  simp only [startD_cons, startD_nil, List.replicate_succ, List.replicate_zero, ev_seq, ev_par, ev_cons, ev_gc, ev_op, ev_lst, ev_tup, ev_c, ev_var, ev_nil, ev_cb, List.getElem?_cons_zero, List.getElem?_cons_succ, bind_ok, List.length_cons, List.length_nil, Nat.reduceAdd, Nat.reduceLeDiff, if_true, h0, h1, ha, e0, hw0, List.set_cons_zero, List.set_cons_succ, e2, ev_ret, hT, ev_retR_rt, gc_dp c (eR_pu _)]
end
end Lw

/-! k47_E4: accepting, chances drawn. -/
namespace Lw
open PySem PySem.Spec PyProof.Rows L2 Sm Sq
theorem num_neg_iff {q : Rat} : decide (q.num < 0) = decide (q < 0) := by
  rw [decide_eq_decide, Rat.lt_iff]
  simp
theorem num_nonpos_iff {q : Rat} : decide (q.num ≤ 0) = decide (q ≤ 0) := by
  rw [decide_eq_decide, Rat.le_iff]
  simp
theorem c_ONE_eq : c_ONE = eQ 1 := rfl
section
variable {vs cs ws : List Rat} {h : MH} {v ch d : D} {s t : Rat}
/-- what accepting asks -/
def acc (vs cs : List Rat) (s t : Rat) (ws : List Rat) : Bool :=
  decide (tot ws = 1) && !(ws.any fun q => decide (q < 0)) && !((List.range ws.length).any fun k => decide (Vf cs k / s < Vf ws k)) && !decide (t < tot (pro ws vs))
theorem e_accX (c : Clo h) (sv : Sqn h v (vs.map eQ)) (l : ws.length ≤ 1000000) (hl : ws.length ≠ vs.length) : m_accepts_weights [v, ch, eQ s, eQ t, eR ws] h = .ok (.bl false) h := by
  unfold m_accepts_weights mOf b_accepts_weights
  simp [v_lenM sv, e_are_parts c l, hl]
theorem e_accN (c : Clo h) (sv : Sqn h v (vs.map eQ)) (hd : isT d = false) : m_accepts_weights [v, ch, eQ s, eQ t, d] h = .ok (.bl false) h := by
  unfold m_accepts_weights mOf b_accepts_weights
  simp [v_lenM sv, e_are_partsX hd]
theorem any_bl {α : Type} {xs : List α} {p : α → Bool} : xs.map (fun x => D.bl (p x)) = (xs.map p).map D.bl := by simp
theorem anyId {α : Type} {xs : List α} {p : α → Bool} : (xs.map p).any id = xs.any p := by induction xs with
  | nil => rfl
  | cons x xs ih => simp
theorem e_acc {a b u w : Nat} (c : Clo h) (sv : Sqn h v (vs.map eQ)) (sc : Sqn h ch (cs.map eQ)) (hl : cs.length = vs.length) (hw : ws.length = vs.length) (zv : SzL u vs) (zc : SzL b cs) (zs : Sz a s) (zw : SzL w ws) (zt : Ok t) (s0 : 0 < s)
    (b1 : 1 ≤ b) (u1 : 1 ≤ u) (w1 : 1 ≤ w) (hA : b + a ≤ 4000) (hu : u ≤ 4000) (hw' : w ≤ 4000) (hB : vs.length * (w + u + 1) + 1 ≤ 4000) :
    m_accepts_weights [v, ch, eQ s, eQ t, eR ws] h = .ok (.bl (acc vs cs s t ws)) h := by
  have hlen : ws.length ≤ 4000 := by
    have := Nat.mul_le_mul_left vs.length (show 1 ≤ w + u + 1 by omega)
    omega
  have hB' : ws.length * (w + 1) + 1 ≤ 4000 := by
    have := Nat.mul_le_mul_left vs.length (show w + 1 ≤ w + u + 1 by omega)
    rw [hw]; omega
  unfold m_accepts_weights mOf b_accepts_weights
  have e1 : cLen [v] h = .ok (.int vs.length) h := v_lenM sv
  have e2 : m_are_parts [eR ws, .int vs.length] h = .ok (.bl true) h := by rw [e_are_parts c (by omega)]; simp [hw]
  have e3 : m_total [eR ws] h = .ok (eQ (tot ws)) h := e_total sqn_t zw hB'
  have e4 : dNe (eQ (tot ws)) c_ONE h = .ok (.bl (!decide (tot ws = 1))) h := by
    rw [c_ONE_eq, v_ne (flat_eQ _) (flat_eQ _)]
    congr 3
    rw [decide_eq_decide, eQ_inj]
  have e5 := fLc_mpy (own := [5]) (fe := fVar 4) (tgt := gNm 5) (elt := fOp dLt (fOp dIx (fVar 5) (fC (.int 0))) (fC (.int 0))) (σ := [some v, some ch, some (eQ s), some (eQ t), some (eR ws), none, none]) (h := h) (d := eR ws) eQ ws sqn_t (by simp) (by omega) (fun q => .bl (decide (q < 0))) (by
    intro q _
    exact ⟨_, rfl, by simp [wipeD, dLt, num_neg_iff]⟩)
  rw [any_bl] at e5
  have e6 := any_gc c (bs := ws.map fun q => decide (q < 0))
  rw [anyId] at e6
  have elw : cLen [eR ws] h = .ok (.int ws.length) h := v_lenM (e := eQ) (xs := ws) sqn_t
  have e7 := fLc_rg (own := [6]) (fa := fCB cLen (fCons (fVar 4) fNil)) (tgt := gNm 6) (elt := fGc (fCall 2 m_is_less (fCons (fGc (fCall 2 m_over (fCons (fOp dIx (fVar 1) (fVar 6)) (fCons (fVar 2) fNil)))) (fCons (fOp dIx (fVar 4) (fVar 6)) fNil)))) (σ := [some v, some ch, some (eQ s), some (eQ t), some (eR ws), none, none]) (h := h) (n := ws.length) (by simp [elw]) (by omega) (fun k => .bl (decide (Vf cs k / s < Vf ws k))) (by
    intro k hk
    have hkc : k < cs.length := by omega
    refine ⟨_, rfl, ?_⟩
    simp [wipeD, v_ixV sc hkc, v_ixV (d := eR ws) (vs := ws) sqn_t hk, e_over (ok_Vf zc (by omega) k) (zs.mono (by omega)) (show s ≠ 0 by grind), e_is_less ((sz_div (sz_Vf zc b1 k) zs).mono hA) (ok_Vf zw hw' k)])
  rw [any_bl] at e7
  have e8 := any_gc c (bs := (List.range ws.length).map fun k => decide (Vf cs k / s < Vf ws k))
  rw [anyId] at e8
  have e9 : m_dot [eR ws, v] h = .ok (eQ (tot (pro ws vs))) h := e_dot c sqn_t sv zw zv (by omega) (by rw [hw]; exact hB) hw' hu
  have o9 : Ok (tot (pro ws vs)) := (sz_tot (sz_pro zw zv)).mono (by rw [len_pro (by omega), hw]; exact hB)
  have hS : (startD 7 [v, ch, eQ s, eQ t, eR ws]) = [some v, some ch, some (eQ s), some (eQ t), some (eR ws), none, none] := rfl
  unfold acc
  simp only [hS, ev_seq, ev_if, ev_orT, ev_notT, ev_tru, ev_gc, ev_call, ev_cons, ev_cb, ev_nil, ev_var, List.getElem?_cons_zero, List.getElem?_cons_succ, bind_ok, e1, List.length_cons, List.length_nil, Nat.reduceAdd, if_true, e2, gc_same, v_truB, Bool.not_true, Bool.false_eq_true, if_false, ev_gct, ev_tst, ev_op, ev_c, e3, e4, ev_toB, gct_same]
  by_cases c1 : tot ws = 1
  · simp only [c1, decide_true, Bool.not_true, Bool.false_eq_true, if_false, e5, gc_np c (bls_pu _), bind_ok, ev_cb, ev_cons, ev_nil, e6, v_truB, Bool.true_and]
    cases c2 : ws.any fun q => decide (q < 0) with
    | true => simp
    | false =>
      simp only [Bool.false_eq_true, if_false, ev_nx, bind_ok, e7, gc_np c (bls_pu _), ev_cons, ev_nil, e8, v_truB, Bool.not_false, Bool.true_and]
      cases c3 : (List.range ws.length).any fun k => decide (Vf cs k / s < Vf ws k) with
      | true => simp
      | false =>
        simp only [Bool.false_eq_true, if_false, ev_nx, bind_ok, ev_ret, ev_notV, ev_gc, ev_call, ev_cons, ev_var, ev_nil, List.getElem?_cons_zero, List.getElem?_cons_succ, List.length_cons, List.length_nil, Nat.reduceAdd, if_true, e9, gc_same, e_is_less zt o9, v_truB, ev_retR_rt, Bool.not_false, Bool.true_and]
  · simp [c1]
end
/-- chances drawn -/
def Chn (n : Nat) (cs : List Rat) : Prop := cs.length = n ∧ SzL 5 cs ∧ (∀ q ∈ cs, 1 / 20 ≤ q) ∧ tot cs = 1
theorem tot_Q {S : Int} (hS : S ≠ 0) : ∀ rs : List Int, tot (rs.map fun r => Q r S) = (rs.sum : Rat) / S
  | [] => by simp [Rat.div_def]
  | r :: rs => by
    rw [List.map_cons, tot_cons, tot_Q hS rs, List.sum_cons, Q, Rat.divInt_eq_div, Rat.intCast_add]
    grind
theorem e_Lchances {b g : MH} {S : List Int × Int} (hS : Gd S) (c : CloS b g) {n : Nat} (n1 : 1 ≤ n) (n5 : n ≤ 5) : Drw b g (fun d => ∃ cs, d = eR cs ∧ Chn n cs) (m_Lchances [.lst (b.length + 1), .int n] (SH b S g)) := by
  unfold m_Lchances mOf b_Lchances
  obtain ⟨vs, S', e, g', lv, hv⟩ := fLc_drw_rg (b := b) (g := g) (own := [3]) (fa := fVar 1) (tgt := gNm 3) (elt := fGc (fOp dAdd (fC (.int 1)) (fGc (fCall 2 m_Ltake (fCons (fVar 0) (fCons (fC (.int 4)) fNil)))))) (σ := [some (.lst (b.length + 1)), some (.int n), none, none, none]) (S := S) (n := n) hS (by simp) (by omega) (fun _ d => ∃ i : Int, d = .int i ∧ 1 ≤ i ∧ i ≤ 4) (by
    intro i S _ hS
    obtain ⟨d', S', e, g', k, rfl, k0, k1⟩ := e_Ltake (b := b) (g := g) hS (m := 4) (by decide) (by decide)
    exact ⟨_, rfl, .int (1 + k), S', by simp [wipeD, e, gc_SH0], g', 1 + k, rfl, by omega, by omega⟩)
  have : ∃ rs : List Int, vs = rs.map D.int ∧ ∀ r ∈ rs, 1 ≤ r ∧ r ≤ 4 := by
    clear e lv
    induction vs with
    | nil => exact ⟨[], rfl, fun _ m => by cases m⟩
    | cons v vs ih =>
      obtain ⟨rs, rfl, z⟩ := ih fun j v e => hv (j + 1) v (by simpa using e)
      obtain ⟨i, rfl, h1, h2⟩ := hv 0 v rfl
      refine ⟨i :: rs, rfl, fun r m => ?_⟩
      rcases List.mem_cons.mp m with rfl | m
      · exact ⟨h1, h2⟩
      · exact z r m
  obtain ⟨rs, rfl, hr⟩ := this
  rw [List.length_map] at lv
  have hsum : ∀ rs : List Int, (∀ r ∈ rs, 1 ≤ r ∧ r ≤ 4) → (rs.length : Int) ≤ rs.sum ∧ rs.sum ≤ 4 * rs.length := by
    intro rs
    induction rs with
    | nil => intro _; simp
    | cons r rs ih =>
      intro hr
      have h1 := hr r (List.mem_cons_self ..)
      have h2 := ih fun x m => hr x (List.mem_cons_of_mem _ m)
      rw [List.sum_cons, List.length_cons]
      omega
  have hs := hsum rs hr
  have hpu : D.puL (rs.map D.int) = true := (puL_iff _).mpr fun d m => by obtain ⟨q, _, rfl⟩ := List.mem_map.mp m; rfl
  have hget : (SH b S' (g ++ [.lst (rs.map D.int)]))[(SH b S g).length]? = some (.lst (rs.map D.int)) := by
    rw [SH_length, show b.length + (g.length + 2) = b.length + 2 + g.length by omega, SH_g]; simp
  have hC : Clo (SH b S' (g ++ [.lst (rs.map D.int)])) := c.pushP hpu S'
  have hsumv : cSum [.lst (SH b S g).length] (SH b S' (g ++ [.lst (rs.map D.int)])) = .ok (.int rs.sum) (SH b S' (g ++ [.lst (rs.map D.int)])) := v_sum hget
  have h5 : ∀ i : Int, 1 ≤ i → i ≤ 20 → i.natAbs < 2 ^ 5 := fun i h1 h2 => by
    have : (2 : Nat) ^ 5 = 32 := by decide
    omega
  have h5' : ∀ i : Int, 1 ≤ i → i ≤ 20 → i.natAbs < 2 ^ 8999 := fun i h1 h2 => Nat.lt_of_lt_of_le (h5 i h1 h2) (Nat.pow_le_pow_right (by decide) (by decide))
  have e2 := fLc_mpy (own := [4]) (fe := fVar 2) (tgt := gNm 4) (elt := fGc (fCall 2 m_Lpart (fCons (fVar 4) (fCons (fCB cSum (fCons (fVar 2) fNil)) fNil)))) (σ := [some (.lst (b.length + 1)), some (.int n), some (.lst (SH b S g).length), none, none]) (h := SH b S' (g ++ [.lst (rs.map D.int)])) (d := .lst (SH b S g).length) D.int rs (sqn_l hget) (by simp) (by omega) (fun r => eQ (Q r rs.sum)) (by
    intro r m
    refine ⟨_, rfl, ?_⟩
    simp only [wipeD, List.set_cons_succ, List.set_cons_zero, ev_gc, ev_call, ev_cons, ev_cb, ev_var, ev_nil, List.getElem?_cons_zero, List.getElem?_cons_succ, bind_ok, hsumv, List.length_cons, List.length_nil, Nat.reduceAdd, if_true, e_Lpart (show rs.sum ≠ 0 by omega) (h5' _ (by omega) (by omega)), gc_same])
  have e3 : rs.map (fun r => eQ (Q r rs.sum)) = (rs.map fun r => Q r rs.sum).map eQ := by simp
  rw [e3] at e2
  have e4 := tup_gc hC (eQs_pu (rs.map fun r => Q r rs.sum))
  refine ⟨eR (rs.map fun r => Q r rs.sum), S', ?_, g', _, rfl, by simpa using lv, ?_, ?_, ?_⟩
  · have hS0 : startD 5 [D.lst (b.length + 1), .int n] = [some (.lst (b.length + 1)), some (.int n), none, none, none] := rfl
    have e5 : gcR (SH b S g).length (.ok (.tup ((rs.map fun r => Q r rs.sum).map eQ)) (SH b S' (g ++ [HE.lst (rs.map D.int)]))) = .ok (eR (rs.map fun r => Q r rs.sum)) (SH b S' g) := gc_SH (d := eR (rs.map fun r => Q r rs.sum)) c SH_length (eR_pu _)
    simp only [hS0, ev_seq, ev_set, ev_gc, e, gc_SHn c SH_length hpu, bind_ok, List.set_cons_succ, List.set_cons_zero, ev_ret, ev_cb, ev_cons, ev_nil, e2, gc_np hC (eQs_pu _), e4, ev_retR_rt, e5]
  · intro q m
    obtain ⟨r, mr, rfl⟩ := List.mem_map.mp m
    have := hr r mr
    exact sz_divInt (by omega) (h5 r (by omega) (by omega)) (h5 _ (by omega) (by omega))
  · intro q m
    obtain ⟨r, mr, rfl⟩ := List.mem_map.mp m
    have h1 := hr r mr
    rw [Q, Rat.divInt_eq_div]
    have p1 : (0 : Rat) < (rs.sum : Rat) := by
      have : (0 : Int) < rs.sum := by omega
      exact_mod_cast this
    have p2 : (rs.sum : Rat) ≤ 20 := by
      have : rs.sum ≤ 20 := by omega
      exact_mod_cast this
    have p3 : (1 : Rat) ≤ (r : Rat) := by
      have := h1.1
      exact_mod_cast this
    refine Rat.not_lt.mp fun z => ?_
    rw [Rat.div_lt_iff p1] at z
    grind
  · rw [tot_Q (by omega)]
    have : ((rs.sum : Int) : Rat) ≠ 0 := by
      have : rs.sum ≠ 0 := by omega
      exact_mod_cast this
    grind
end Lw

/-! k47_M2: plain: what the shares answer. -/
namespace Lw
open PySem Sm Sq
theorem rows_Vf {ws : List Rat} : ws = (List.range ws.length).map (Vf ws) := by
  apply List.ext_getElem?
  intro i
  by_cases h : i < ws.length
  · rw [Vf_get h]; simp [h]
  · rw [List.getElem?_eq_none (by omega), List.getElem?_eq_none (by simp; omega)]
theorem tot_sm {ws : List Rat} : tot ws = sm (Vf ws) (List.range ws.length) := by
  show tot ws = tot ((List.range ws.length).map (Vf ws))
  rw [← rows_Vf]
theorem pro_rows {ws vs : List Rat} (h : ws.length = vs.length) : pro ws vs = (List.range vs.length).map fun k => Vf ws k * Vf vs k := by
  apply List.ext_getElem?
  intro i
  simp only [pro, List.getElem?_zipWith, List.getElem?_map]
  by_cases l : i < vs.length
  · rw [Vf_get l, Vf_get (h ▸ l)]; simp [l]
  · have e1 : ws[i]? = none := List.getElem?_eq_none (by omega)
    have e3 : (List.range vs.length)[i]? = none := List.getElem?_eq_none (by simp; omega)
    rw [e1, e3]; rfl
theorem tot_pro {ws vs : List Rat} (h : ws.length = vs.length) : tot (pro ws vs) = sm (fun k => Vf ws k * Vf vs k) (List.range vs.length) := by
  rw [pro_rows h]; rfl
theorem Vf_map {f : Nat → Rat} {n k : Nat} (l : k < n) : Vf ((List.range n).map f) k = f k := by
  simp [Vf, l]
section
variable {vs cs : List Rat} {s : Rat} {n : Nat} {pl : List Nat}
theorem wl_len : (wl cs s n pl).length = n := by simp [wl]
theorem Vf_wl {k : Nat} (l : k < n) : Vf (wl cs s n pl) k = gw (fun k => Vf cs k / s) 1 pl k := Vf_map l
theorem tot_wl (p : pl.Perm (List.range n)) : tot (wl cs s n pl) = sm (gw (fun k => Vf cs k / s) 1 pl) pl := (sm_perm p).symm
theorem due_wv (p : pl.Perm (List.range vs.length)) : tot (pro (wl cs s vs.length pl) vs) = wv vs cs s pl := by
  rw [tot_pro wl_len]
  unfold wv
  rw [sm_perm p]
  refine sm_congr fun k m => ?_
  rw [Vf_wl (List.mem_range.mp m)]
theorem sm_cs (hc : cs.length = n) (p : pl.Perm (List.range n)) : sm (Vf cs) pl = tot cs := by
  rw [sm_perm p, tot_sm, hc]
theorem sm_cap (hc : cs.length = n) (p : pl.Perm (List.range n)) : sm (fun k => Vf cs k / s) pl = tot cs / s := by
  have : sm (fun k => Vf cs k / s) pl = sm (fun k => (1 / s) * Vf cs k) pl := sm_congr fun k _ => by grind
  rw [this, sm_mul, sm_cs hc p]; grind
theorem Vf_nonneg {ws : List Rat} (h : ∀ q ∈ ws, 0 ≤ q) (k : Nat) : 0 ≤ Vf ws k := by
  unfold Vf
  by_cases l : k < ws.length
  · rw [List.getElem?_eq_getElem l]; exact h _ (List.getElem_mem _)
  · rw [List.getElem?_eq_none (by omega)]; exact Rat.le_refl
theorem div_nonneg {a b : Rat} (ha : 0 ≤ a) (hb : 0 < b) : 0 ≤ a / b := by
  refine Rat.not_lt.mp fun z => ?_
  rw [Rat.div_lt_iff hb] at z
  grind
theorem le_div1 {a s : Rat} (ha : 0 ≤ a) (hs : 0 < s) (h1 : s ≤ 1) : a ≤ a / s := by
  refine Rat.not_lt.mp fun z => ?_
  rw [Rat.div_lt_iff hs] at z
  have := Rat.mul_le_mul_of_nonneg_left h1 ha
  grind
/-- the chances, the share: what is given -/
structure Giv (vs cs : List Rat) (s : Rat) (pl : List Nat) : Prop where
  ch : Chn vs.length cs
  s0 : 0 < s
  s1 : s ≤ 1
  so : Srt (Vf vs) vs.length pl
theorem Giv.cap0 (G : Giv vs cs s pl) (k : Nat) : 0 ≤ Vf cs k / s := div_nonneg (Vf_nonneg (fun q m => by have := G.ch.2.2.1 q m; grind) k) G.s0
theorem Giv.enough (G : Giv vs cs s pl) : 1 ≤ sm (fun k => Vf cs k / s) pl := by
  rw [sm_cap G.ch.1 G.so.1, G.ch.2.2.2]
  exact le_div1 (by grind) G.s0 G.s1
theorem Giv.sum (G : Giv vs cs s pl) : tot (wl cs s vs.length pl) = 1 := by
  rw [tot_wl G.so.1]
  exact gw_sum (srt_nd G.so) (by grind) (fun k _ => G.cap0 k) G.enough
theorem Giv.bounds (G : Giv vs cs s pl) (k : Nat) (l : k < vs.length) : 0 ≤ Vf (wl cs s vs.length pl) k ∧ Vf (wl cs s vs.length pl) k ≤ Vf cs k / s := by
  rw [Vf_wl l]
  have := gw_bounds (c := fun k => Vf cs k / s) (j := k) (ks := pl) (L := 1) (by grind) (fun k _ => G.cap0 k)
  exact ⟨this.1, this.2 (G.so.1.mem_iff.mpr (List.mem_range.mpr l))⟩
theorem any_neg {ws : List Rat} (h : ∀ q ∈ ws, 0 ≤ q) : (ws.any fun q => decide (q < 0)) = false := by
  rw [List.any_eq_false]
  intro q m
  have := h q m
  simp
  exact Rat.not_lt.mpr this
theorem mem_Vf {ws : List Rat} {q : Rat} (m : q ∈ ws) : ∃ k, k < ws.length ∧ Vf ws k = q := by
  obtain ⟨k, hk, rfl⟩ := List.mem_iff_getElem.mp m
  exact ⟨k, hk, by simp [Vf, hk]⟩
theorem Giv.acc_self (G : Giv vs cs s pl) : acc vs cs s (tot (pro (wl cs s vs.length pl) vs)) (wl cs s vs.length pl) = true := by
  unfold acc
  rw [G.sum, any_neg (fun q m => by
    obtain ⟨k, hk, rfl⟩ := mem_Vf m
    rw [wl_len] at hk
    exact (G.bounds k hk).1)]
  have : ((List.range (wl cs s vs.length pl).length).any fun k => decide (Vf cs k / s < Vf (wl cs s vs.length pl) k)) = false := by
    rw [List.any_eq_false]
    intro k m
    rw [wl_len, List.mem_range] at m
    have := (G.bounds k m).2
    simp
    exact Rat.not_lt.mpr this
  rw [this]
  simp
/-- other chances that are not above -/
def good (cs : List Rat) (s : Rat) (os : List Rat) (n : Nat) : Bool := !((List.range n).any fun k => decide (Vf cs k / s < Vf os k))
theorem Giv.least (G : Giv vs cs s pl) {os : List Rat} (ho : os.length = vs.length) (h0 : ∀ q ∈ os, 0 ≤ q) (h1 : tot os = 1) (hg : ∀ k, k < vs.length → Vf os k ≤ Vf cs k / s) : tot (pro (wl cs s vs.length pl) vs) ≤ tot (pro os vs) := by
  rw [due_wv G.so.1, tot_pro ho, ← sm_perm G.so.1]
  refine gw_least (L := 1) (by grind) (fun k _ => G.cap0 k) G.so.2 (srt_nd G.so) (fun k m => ⟨Vf_nonneg h0 k, hg k (srt_lt G.so m)⟩) ?_
  rw [sm_cs ho G.so.1, h1]
theorem good_iff {os : List Rat} {n : Nat} : good cs s os n = true ↔ ∀ k, k < n → Vf os k ≤ Vf cs k / s := by
  unfold good
  rw [Bool.not_eq_true', List.any_eq_false]
  simp only [List.mem_range, decide_eq_true_eq, Rat.not_lt]
theorem Giv.acc_other (G : Giv vs cs s pl) {os : List Rat} (O : Chn vs.length os) (t : Rat) : acc vs cs s t os = (good cs s os vs.length && !decide (t < tot (pro os vs))) := by
  unfold acc
  rw [O.2.2.2, any_neg (fun q m => by have := O.2.2.1 q m; grind), O.1]
  simp [good]
theorem Giv.other (G : Giv vs cs s pl) {os : List Rat} (O : Chn vs.length os) : good cs s os vs.length = true → tot (pro (wl cs s vs.length pl) vs) ≤ tot (pro os vs) := fun h =>
  G.least O.1 (fun q m => by have := O.2.2.1 q m; grind) O.2.2.2 (good_iff.mp h)
theorem Giv.mean (G : Giv vs cs s pl) : tot (pro (wl cs s vs.length pl) vs) ≤ tot (pro cs vs) :=
  G.least G.ch.1 (fun q m => by have := G.ch.2.2.1 q m; grind) G.ch.2.2.2 fun k _ => le_div1 (Vf_nonneg (fun q m => by have := G.ch.2.2.1 q m; grind) k) G.s0 G.s1
/-- the whole share is the mean -/
theorem wv_one (hc : cs.length = vs.length) (h0 : ∀ q ∈ cs, 0 ≤ q) (h1 : tot cs = 1) (p : Srt (Vf vs) vs.length pl) : wv vs cs 1 pl = tot (pro cs vs) := by
  rw [tot_pro hc, ← sm_perm p.1]
  unfold wv
  have e : (fun k => Vf cs k / 1) = Vf cs := by funext k; grind
  rw [e]
  refine sm_congr fun k m => ?_
  rw [gw_all (srt_nd p) (fun k _ => Vf_nonneg h0 k) (by rw [sm_cs hc p.1, h1]) k m]
theorem gw_zero {c : Nat → Rat} (hc : ∀ k, 0 ≤ c k) (j : Nat) : ∀ ks : List Nat, gw c 0 ks j = 0
  | [] => rfl
  | k :: ks => by
    have : mn 0 (c k) = 0 := by have := hc k; unfold mn; split <;> grind
    rw [gw, this]
    split
    · rfl
    · rw [show (0 : Rat) - 0 = 0 by grind]; exact gw_zero hc j ks
/-- a small share is the least value -/
theorem wv_small {q : Rat} {qs : List Rat} (hv : vs = q :: qs) (hc : cs.length = vs.length) (h0 : ∀ q ∈ cs, 1 / 20 ≤ q) (s0 : 0 < s) (hs : s ≤ 1 / 20) (p : Srt (Vf vs) vs.length pl) : wv vs cs s pl = mnF q qs := by
  have hlen := srt_len p
  match pl, p, hlen with
  | [], p, hlen => rw [hv] at hlen; simp at hlen
  | k :: ks, p, hlen =>
    have hk : k < vs.length := srt_lt p (List.mem_cons_self ..)
    have nd := List.nodup_cons.mp (srt_nd p)
    have hcap : ∀ j, 0 ≤ Vf cs j / s := fun j => div_nonneg (Vf_nonneg (fun q m => by have := h0 q m; grind) j) s0
    have hck : 1 / 20 ≤ Vf cs k := by
      unfold Vf
      rw [List.getElem?_eq_getElem (hc ▸ hk)]
      exact h0 _ (List.getElem_mem _)
    have h1 : mn 1 (Vf cs k / s) = 1 := by
      unfold mn
      rw [if_neg]
      rw [Rat.div_lt_iff s0]
      grind
    have e : wv vs cs s (k :: ks) = Vf vs k := by
      unfold wv
      rw [gw_cons_sm nd.1, h1]
      have : sm (fun j => gw (fun k => Vf cs k / s) (1 - 1) ks j * Vf vs j) ks = sm (fun _ => 0 * 0) ks := sm_congr fun j _ => by
        rw [show (1 : Rat) - 1 = 0 by grind, gw_zero hcap]; grind
      rw [this, sm_mul]; grind
    rw [e]
    have hle : ∀ x ∈ vs, Vf vs k ≤ x := fun x m => by
      obtain ⟨j, hj, rfl⟩ := mem_Vf m
      have hm := p.1.mem_iff.mpr (List.mem_range.mpr hj)
      rcases List.mem_cons.mp hm with rfl | hm
      · exact Rat.le_refl
      · have := (List.pairwise_cons.mp p.2).1 j hm
        unfold bef at this
        grind
    have hm : mnF q qs ∈ vs := by
      rw [hv]
      rcases mnF_mem (q := q) (qs := qs) with e | e
      · rw [e]; exact List.mem_cons_self ..
      · exact List.mem_cons_of_mem _ e
    have hge : mnF q qs ≤ Vf vs k := by
      have hx : Vf vs k ∈ vs := by unfold Vf; rw [List.getElem?_eq_getElem hk]; exact List.getElem_mem _
      rw [hv] at hx
      have := mnF_le (q := q) (qs := qs)
      rw [hv]
      rcases List.mem_cons.mp hx with e | m
      · rw [e]; exact this.1
      · exact this.2 _ m
    exact Rat.le_antisymm (hle _ hm) hge
end
end Lw

/-! k47_E5: the law's shares hold. -/
namespace Lw
open PySem PySem.Spec PyProof.Rows L2 Sm Sq
theorem seq_nx {g g' : FS} {σ σ1 : Sg} {h h1 : MH} (e : g σ h = .ok (.nx σ1) h1) : fSeq g g' σ h = g' σ1 h1 := by simp [e]
theorem if_f {c : FT} {g g' : FS} {σ : Sg} {h h1 : MH} (e : c σ h = .ok false h1) : fIf c g g' σ h = g' σ h1 := by simp [e]
theorem or_f {ga gb : FT} {σ : Sg} {h h1 : MH} {r : Res Bool} (e : ga σ h = .ok false h1) (e2 : gb σ h1 = r) : fOrT ga gb σ h = r := by simp [e, e2]
theorem ne_eQ {h : MH} {p q : Rat} : dNe (eQ p) (eQ q) h = .ok (.bl (!decide (p = q))) h := by
  rw [v_ne (flat_eQ _) (flat_eQ _)]
  congr 3
  rw [decide_eq_decide, eQ_inj]
theorem eq_eQ {h : MH} {p q : Rat} : dEq (eQ p) (eQ q) h = .ok (.bl (decide (p = q))) h := by
  rw [v_eq (flat_eQ _) (flat_eQ _)]
  congr 2
  rw [decide_eq_decide, eQ_inj]
theorem ne_eR {h : MH} {p q : List Rat} : dNe (eR p) (eR q) h = .ok (.bl (!decide (p = q))) h := by
  rw [v_ne (flat_eR _) (flat_eR _)]
  congr 3
  rw [decide_eq_decide, eR_inj]
theorem ne_bl {h : MH} {a b : Bool} : dNe (.bl a) (.bl b) h = .ok (.bl (!decide (a = b))) h := by
  cases a <;> cases b <;> rfl
theorem ne_same {b : Bool} : (!decide (b = b)) = false := by simp
theorem gcS {b g : MH} {S1 S2 : List Int × Int} {d : D} : gcR (SH b S1 g).length (.ok d (SH b S2 g)) = .ok d (SH b S2 g) := gc_SH0 SH_length
theorem gcSn {b g : MH} {S1 S2 : List Int × Int} {ds : List D} (c : CloS b g) (p : D.puL ds = true) : gcR (SH b S1 g).length (.ok (.lst (SH b S2 g).length) (SH b S2 g ++ [.lst ds])) = .ok (.lst (b.length + (g.length + 2))) (SH b S2 (g ++ [.lst ds])) := by
  rw [gc_SHn c SH_length p, SH_length]
/-- two new lists of places that are alike -/
theorem ne_places {h : MH} {ks : List Nat} : dNe (.lst h.length) (.lst (h ++ [HE.lst (ks.map eI)]).length) (h ++ [.lst (ks.map eI)] ++ [.lst (ks.map eI)]) = .ok (.bl false) (h ++ [.lst (ks.map eI)] ++ [.lst (ks.map eI)]) := by
  rw [v_neL (ds := ks.map eI) (es := ks.map eI) (by simp) (by simp) (flatL_eI _) (flatL_eI _)]
  simp
theorem app2 {h : MH} {a b : HE} : h ++ [a] ++ [b] = h ++ [a, b] := by simp
theorem gct_drop2 {h : MH} {a b : HE} {k : Bool} (c : Clo h) : gcT h.length (.ok k (h ++ [a] ++ [b])) = .ok k h := by rw [app2, gct_drop c]
theorem cut_last {qs : List Rat} (h : qs ≠ []) (H : MH) : dSl (eR qs) none (some (-1)) H = .ok (eR qs.dropLast) H := by
  have hl : 0 < qs.length := List.length_pos_iff.mpr h
  have e : Sm.cutD (qs.map eQ) none (some (-1)) = (qs.dropLast).map eQ := by
    unfold Sm.cutD
    have h0 : HT.sIx (qs.map eQ).length 0 none = 0 := rfl
    have h1 : HT.sIx (qs.map eQ).length (qs.map eQ).length (some (-1)) = qs.length - 1 := by
      rw [List.length_map]
      show (if (-1 : Int) < 0 then ((-1 : Int) + (qs.length : Int)).toNat else min (-1 : Int).toNat qs.length) = _
      rw [if_pos (by decide)]
      omega
    rw [h0, h1, List.drop_zero, Nat.sub_zero, List.dropLast_eq_take, List.map_take]
  show (Res.ok (D.tup (Sm.cutD (qs.map eQ) none (some (-1)))) H) = _
  rw [e]; rfl
theorem cut_tail {qs : List Rat} (H : MH) : dSl (eR qs) (some 1) none H = .ok (eR qs.tail) H := by
  have e : Sm.cutD (qs.map eQ) (some 1) none = (qs.tail).map eQ := by
    unfold Sm.cutD
    have h0 : HT.sIx (qs.map eQ).length (qs.map eQ).length none = qs.length := by rw [List.length_map]; rfl
    have h1 : HT.sIx (qs.map eQ).length 0 (some 1) = min 1 qs.length := by
      rw [show (some (1 : Int)) = some ((1 : Nat) : Int) from rfl, HT.sIx_nat, List.length_map]
    rw [h0, h1]
    cases qs with
    | nil => rfl
    | cons q qs =>
      rw [List.length_cons, show min 1 (qs.length + 1) = 1 by omega, List.map_cons, List.drop_succ_cons, List.drop_zero, List.tail_cons, List.take_of_length_le (by simp)]
  show (Res.ok (D.tup (Sm.cutD (qs.map eQ) (some 1) none)) H) = _
  rw [e]; rfl
theorem add_eR {ps qs : List Rat} {H : MH} (l : ps.length + qs.length ≤ 1000000) : dAdd (eR ps) (eR qs) H = .ok (eR (ps ++ qs)) H := by
  show (if (ps.map eQ).length + (qs.map eQ).length ≤ 1000000 then Res.ok (D.tup (ps.map eQ ++ qs.map eQ)) H else .err) = _
  rw [if_pos (by simpa using l), ← List.map_append]; rfl
theorem v_list {h : MH} {qs : List Rat} (l : qs.length ≤ 1000000) : cList [eR qs] h = .ok (.lst h.length) (h ++ [.lst (qs.map eQ)]) := by
  show allocD (qs.map eQ) h = _
  exact v_alloc (by simpa using l)
theorem clo_push {h : MH} (c : Clo h) {ds : List D} (p : D.clL h.length ds = true) : Clo (h ++ [.lst ds]) := by
  unfold Clo clH at *
  rw [List.all_append, Bool.and_eq_true]
  refine ⟨?_, by simp only [List.all_cons, List.all_nil, Bool.and_true, HE.cl]; exact clL_mono (by simp) ds p⟩
  rw [List.all_eq_true] at c ⊢
  intro e m
  have := c e m
  cases e with
  | lst es => exact clL_mono (by simp) es this
theorem e_Lshares {b g : MH} {S : List Int × Int} (hS : Gd S) (c : CloS b g) : Drw b g (fun d => d = .bl true) (m_Lshares [.lst (b.length + 1)] (SH b S g)) := by
  suffices H : ∃ S' j, b_Lshares (startD 15 [.lst (b.length + 1)]) (SH b S g) = .ok (.rt (.bl true)) (SH b S' (g ++ j)) ∧ Gd S' by
    obtain ⟨S', j, e, g'⟩ := H
    refine ⟨.bl true, S', ?_, g', rfl⟩
    unfold m_Lshares mOf
    rw [e, ev_retR_rt]
    exact gc_SH c SH_length rfl
  have hst : startD 15 [D.lst (b.length + 1)] = [some (.lst (b.length + 1)), none, none, none, none, none, none, none, none, none, none, none, none, none, none] := rfl
  rw [hst]
  unfold b_Lshares
  obtain ⟨_, S1, x1, g1, i, rfl, i0, i1⟩ := e_Ltake (b := b) (g := g) hS (m := 5) (by decide) (by decide)
  obtain ⟨n, hn, n1, n5⟩ : ∃ n : Nat, 1 + i = (n : Int) ∧ 1 ≤ n ∧ n ≤ 5 := ⟨(1 + i).toNat, by omega, by omega, by omega⟩
  rw [seq_nx (σ1 := [some (.lst (b.length + 1)), some (.int n), none, none, none, none, none, none, none, none, none, none, none, none, none]) (h1 := SH b S1 g)]
  rotate_left
  · simp only [ev_c, ev_var, ev_nil, ev_cons, ev_tup, ev_lst, ev_op, ev_tst, ev_toB, ev_tru, ev_andT, ev_orT, ev_notT, ev_andV, ev_orV, ev_notV, ev_neg, ev_ifE, ev_no, ev_so, ev_sl, ev_cb, ev_isi, ev_mt, ev_lr1, ev_gc, ev_gct, ev_call, ev_nx, ev_seq, ev_exp, ev_ret, ev_if, ev_set, ev_asg, ev_par, ev_gnm, ev_gsb, ev_gsnil, ev_gscons, ev_gtp, ev_yes, ev_retR_rt, bind_ok, List.getElem?_cons_zero, List.getElem?_cons_succ, List.set_cons_zero, List.set_cons_succ, List.length_cons, List.length_nil, Nat.reduceAdd, Nat.reduceLeDiff, if_true, gc_same, gct_same, v_truB, Sm.v_add, Sm.v_sub, isL_lst, decide_true, decide_false, Bool.not_true, Bool.not_false, Bool.false_eq_true, if_false, x1, gcS, hn]
  obtain ⟨vd, S2, x2, g2, lv, hv⟩ := fLc_drw_rg (b := b) (g := g) (own := [13]) (fa := fVar 1) (tgt := gNm 13) (elt := fGc (fCall 2 m_Lfraction (fCons (fVar 0) (fCons (fC (.int 3)) fNil)))) (σ := [some (.lst (b.length + 1)), some (.int n), none, none, none, none, none, none, none, none, none, none, none, none, none]) (S := S1) (n := n) g1 (by simp) (by omega) (fun _ d => ∃ u v : Int, d = eQ (Q u v) ∧ -3 ≤ u ∧ u ≤ 3 ∧ 1 ≤ v ∧ v ≤ 3) (by
    intro i S _ hS
    obtain ⟨d', S', e, g', p⟩ := e_Lfraction (b := b) (g := g) hS
    exact ⟨_, rfl, d', S', by simp only [wipeD, ev_c, ev_var, ev_nil, ev_cons, ev_tup, ev_lst, ev_op, ev_tst, ev_toB, ev_tru, ev_andT, ev_orT, ev_notT, ev_andV, ev_orV, ev_notV, ev_neg, ev_ifE, ev_no, ev_so, ev_sl, ev_cb, ev_isi, ev_mt, ev_lr1, ev_gc, ev_gct, ev_call, ev_nx, ev_seq, ev_exp, ev_ret, ev_if, ev_set, ev_asg, ev_par, ev_gnm, ev_gsb, ev_gsnil, ev_gscons, ev_gtp, ev_yes, ev_retR_rt, bind_ok, List.getElem?_cons_zero, List.getElem?_cons_succ, List.set_cons_zero, List.set_cons_succ, List.length_cons, List.length_nil, Nat.reduceAdd, Nat.reduceLeDiff, if_true, gc_same, gct_same, v_truB, Sm.v_add, Sm.v_sub, isL_lst, decide_true, decide_false, Bool.not_true, Bool.not_false, Bool.false_eq_true, if_false, e, gcS], g', p⟩)
  have : ∃ vs : List Rat, vd = vs.map eQ ∧ SzL 2 vs := by
    clear x2 lv
    induction vd with
    | nil => exact ⟨[], rfl, fun _ m => by cases m⟩
    | cons v vd ih =>
      obtain ⟨qs, rfl, z⟩ := ih fun j v e => hv (j + 1) v (by simpa using e)
      obtain ⟨u, v', rfl, h1, h2, h3, h4⟩ := hv 0 v rfl
      refine ⟨Q u v' :: qs, rfl, fun q m => ?_⟩
      rcases List.mem_cons.mp m with rfl | m
      · exact sz_divInt (by omega) (by omega) (by omega)
      · exact z q m
  obtain ⟨vs, rfl, zv⟩ := this
  rw [List.length_map] at lv
  subst lv
  have hC : CloS b (g ++ [.lst (vs.map eQ)]) := c.pushP (eQs_pu _)
  have sv : ∀ S, Sqn (SH b S (g ++ [.lst (vs.map eQ)])) (.lst (b.length + (g.length + 2))) (vs.map eQ) := fun S => sqn_l (by
    rw [show b.length + (g.length + 2) = b.length + 2 + g.length by omega, SH_g]; simp)
  obtain ⟨_, S3, x3, g3, cs, rfl, hch⟩ := e_Lchances (b := b) (g := g ++ [.lst (vs.map eQ)]) g2 hC n1 n5
  rw [seq_nx (σ1 := [some (.lst (b.length + 1)), some (.int vs.length), some (.lst (b.length + (g.length + 2))), some (eR cs), none, none, none, none, none, none, none, none, none, none, none]) (h1 := SH b S3 (g ++ [.lst (vs.map eQ)]))]
  rotate_left
  · simp only [ev_c, ev_var, ev_nil, ev_cons, ev_tup, ev_lst, ev_op, ev_tst, ev_toB, ev_tru, ev_andT, ev_orT, ev_notT, ev_andV, ev_orV, ev_notV, ev_neg, ev_ifE, ev_no, ev_so, ev_sl, ev_cb, ev_isi, ev_mt, ev_lr1, ev_gc, ev_gct, ev_call, ev_nx, ev_seq, ev_exp, ev_ret, ev_if, ev_set, ev_asg, ev_par, ev_gnm, ev_gsb, ev_gsnil, ev_gscons, ev_gtp, ev_yes, ev_retR_rt, bind_ok, List.getElem?_cons_zero, List.getElem?_cons_succ, List.set_cons_zero, List.set_cons_succ, List.length_cons, List.length_nil, Nat.reduceAdd, Nat.reduceLeDiff, if_true, gc_same, gct_same, v_truB, Sm.v_add, Sm.v_sub, isL_lst, decide_true, decide_false, Bool.not_true, Bool.not_false, Bool.false_eq_true, if_false, x2, gcSn c (eQs_pu vs), x3, gcS]
  obtain ⟨_, S4, x4, g4, i4, rfl, i40, i41⟩ := e_Ltake (b := b) (g := g ++ [.lst (vs.map eQ)]) g3 (m := 6) (by decide) (by decide)
  have hp4 := e_Lpart (a := 1 + i4) (b := 6) (by decide) (by
    refine Nat.lt_of_lt_of_le (show (6 : Int).natAbs < 2 ^ 3 by decide) ?_
    exact Nat.pow_le_pow_right (by decide) (by decide)) (SH b S4 (g ++ [.lst (vs.map eQ)]))
  have zs : Sz 3 (Q (1 + i4) 6) := sz_divInt (by decide) (by
    have : (2 : Nat) ^ 3 = 8 := by decide
    omega) (by decide)
  have s0 : 0 < Q (1 + i4) 6 := by
    rw [Q, Rat.divInt_eq_div]
    have : (1 : Rat) ≤ ((1 + i4 : Int) : Rat) := by
      have : 1 ≤ 1 + i4 := by omega
      exact_mod_cast this
    rw [Rat.lt_div_iff (by decide)]
    grind
  have s1 : Q (1 + i4) 6 ≤ 1 := by
    rw [Q, Rat.divInt_eq_div]
    have : ((1 + i4 : Int) : Rat) ≤ 6 := by
      have : 1 + i4 ≤ 6 := by omega
      exact_mod_cast this
    refine Rat.not_lt.mp fun z => ?_
    rw [Rat.lt_div_iff (by decide)] at z
    grind
  generalize hs : Q (1 + i4) 6 = s at hp4 zs s0 s1
  rw [seq_nx (σ1 := [some (.lst (b.length + 1)), some (.int vs.length), some (.lst (b.length + (g.length + 2))), some (eR cs), some (eQ s), none, none, none, none, none, none, none, none, none, none]) (h1 := SH b S4 (g ++ [.lst (vs.map eQ)]))]
  rotate_left
  · simp only [ev_c, ev_var, ev_nil, ev_cons, ev_tup, ev_lst, ev_op, ev_tst, ev_toB, ev_tru, ev_andT, ev_orT, ev_notT, ev_andV, ev_orV, ev_notV, ev_neg, ev_ifE, ev_no, ev_so, ev_sl, ev_cb, ev_isi, ev_mt, ev_lr1, ev_gc, ev_gct, ev_call, ev_nx, ev_seq, ev_exp, ev_ret, ev_if, ev_set, ev_asg, ev_par, ev_gnm, ev_gsb, ev_gsnil, ev_gscons, ev_gtp, ev_yes, ev_retR_rt, bind_ok, List.getElem?_cons_zero, List.getElem?_cons_succ, List.set_cons_zero, List.set_cons_succ, List.length_cons, List.length_nil, Nat.reduceAdd, Nat.reduceLeDiff, if_true, gc_same, gct_same, v_truB, Sm.v_add, Sm.v_sub, isL_lst, decide_true, decide_false, Bool.not_true, Bool.not_false, Bool.false_eq_true, if_false, x4, gcS, hp4]
  -- all is drawn
  have hvl : vs.length ≤ 5 := n5
  have H4 : Clo (SH b S4 (g ++ [.lst (vs.map eQ)])) := hC S4
  obtain ⟨pl, hso, y1⟩ := e_sorted_places H4 (sv S4) (zv.mono (by omega)) (by omega)
  have H4' : Clo (SH b S4 (g ++ [.lst (vs.map eQ)]) ++ [.lst (pl.map eI)]) := clo1 H4 (eIs_pu _)
  obtain ⟨pl', hso', y2⟩ := e_Lplaces H4' (sqn_app (sv S4)) (zv.mono (by omega)) (by omega)
  have : pl' = pl := srt_unique hso' hso
  subst this
  have G : Giv vs cs s pl' := ⟨hch, s0, s1, hso⟩
  have zc := hch.2.1
  have hcl := hch.1
  have hc0 : ∀ q ∈ cs, 0 ≤ q := fun q m => by have := hch.2.2.1 q m; grind
  obtain ⟨y3, zw⟩ := e_Lweights (A := 46) H4 (sv S4) (ch := eR cs) sqn_t hcl zv zc zs s0 (by decide) (by decide) (by omega) (by decide) (by omega) hso
  have lw : (wl cs s vs.length pl').length = vs.length := wl_len
  generalize hws : wl cs s vs.length pl' = ws at y3 zw lw
  rw [seq_nx (σ1 := [some (.lst (b.length + 1)), some (.int vs.length), some (.lst (b.length + (g.length + 2))), some (eR cs), some (eQ s), some (eR ws), none, none, none, none, none, none, none, none, none]) (h1 := SH b S4 (g ++ [.lst (vs.map eQ)]))]
  rotate_left
  · simp only [ev_c, ev_var, ev_nil, ev_cons, ev_tup, ev_lst, ev_op, ev_tst, ev_toB, ev_tru, ev_andT, ev_orT, ev_notT, ev_andV, ev_orV, ev_notV, ev_neg, ev_ifE, ev_no, ev_so, ev_sl, ev_cb, ev_isi, ev_mt, ev_lr1, ev_gc, ev_gct, ev_call, ev_nx, ev_seq, ev_exp, ev_ret, ev_if, ev_set, ev_asg, ev_par, ev_gnm, ev_gsb, ev_gsnil, ev_gscons, ev_gtp, ev_yes, ev_retR_rt, bind_ok, List.getElem?_cons_zero, List.getElem?_cons_succ, List.set_cons_zero, List.set_cons_succ, List.length_cons, List.length_nil, Nat.reduceAdd, Nat.reduceLeDiff, if_true, gc_same, gct_same, v_truB, Sm.v_add, Sm.v_sub, isL_lst, decide_true, decide_false, Bool.not_true, Bool.not_false, Bool.false_eq_true, if_false, y3]
  have dotW : ∀ {h : MH}, Clo h → Sqn h (.lst (b.length + (g.length + 2))) (vs.map eQ) → m_Ldot [eR ws, .lst (b.length + (g.length + 2))] h = .ok (eQ (tot (pro ws vs))) h := fun c s => e_Ldot c sqn_t s zw zv (by omega) (by omega) (by omega) (by omega)
  have dotC : ∀ {h : MH} {os : List Rat}, Clo h → Sqn h (.lst (b.length + (g.length + 2))) (vs.map eQ) → Chn vs.length os → m_Ldot [eR os, .lst (b.length + (g.length + 2))] h = .ok (eQ (tot (pro os vs))) h := fun c s O => e_Ldot c sqn_t s O.2.1 zv (by have := O.1; omega) (by have := O.1; omega) (by omega) (by omega)
  have okW : Ok (tot (pro ws vs)) := (sz_tot (sz_pro zw zv)).mono (by rw [len_pro (by omega), lw]; omega)
  have okC : ∀ {os : List Rat}, Chn vs.length os → Ok (tot (pro os vs)) := fun O => (sz_tot (sz_pro O.2.1 zv)).mono (by rw [len_pro (by have := O.1; omega), O.1]; omega)
  rw [seq_nx (σ1 := [some (.lst (b.length + 1)), some (.int vs.length), some (.lst (b.length + (g.length + 2))), some (eR cs), some (eQ s), some (eR ws), some (eQ (tot (pro ws vs))), none, none, none, none, none, none, none, none]) (h1 := SH b S4 (g ++ [.lst (vs.map eQ)]))]
  rotate_left
  · simp only [ev_c, ev_var, ev_nil, ev_cons, ev_tup, ev_lst, ev_op, ev_tst, ev_toB, ev_tru, ev_andT, ev_orT, ev_notT, ev_andV, ev_orV, ev_notV, ev_neg, ev_ifE, ev_no, ev_so, ev_sl, ev_cb, ev_isi, ev_mt, ev_lr1, ev_gc, ev_gct, ev_call, ev_nx, ev_seq, ev_exp, ev_ret, ev_if, ev_set, ev_asg, ev_par, ev_gnm, ev_gsb, ev_gsnil, ev_gscons, ev_gtp, ev_yes, ev_retR_rt, bind_ok, List.getElem?_cons_zero, List.getElem?_cons_succ, List.set_cons_zero, List.set_cons_succ, List.length_cons, List.length_nil, Nat.reduceAdd, Nat.reduceLeDiff, if_true, gc_same, gct_same, v_truB, Sm.v_add, Sm.v_sub, isL_lst, decide_true, decide_false, Bool.not_true, Bool.not_false, Bool.false_eq_true, if_false, dotW H4 (sv S4)]
  have hwv : wv vs cs s pl' = tot (pro ws vs) := by rw [← hws, due_wv hso.1]
  have y4 : m_worst [.lst (b.length + (g.length + 2)), eR cs, eQ s] (SH b S4 (g ++ [.lst (vs.map eQ)])) = .ok (eQ (tot (pro ws vs))) (SH b S4 (g ++ [.lst (vs.map eQ)])) := by
    rw [← hwv]
    exact e_worst (A := 33) H4 (sv S4) sqn_t hcl zv zc zs s0 (by decide) (by decide) (by decide) (by omega) (by omega) (by decide) hso
  have y5 : m_worst_weights [.lst (b.length + (g.length + 2)), eR cs, eQ s] (SH b S4 (g ++ [.lst (vs.map eQ)])) = .ok (eR ws) (SH b S4 (g ++ [.lst (vs.map eQ)])) := by
    rw [← hws]
    exact e_worst_weights (A := 33) H4 (sv S4) sqn_t hcl zv zc zs s0 (by decide) (by decide) (by decide) (by omega) (by decide) (by omega) hso
  rw [seq_nx (σ1 := [some (.lst (b.length + 1)), some (.int vs.length), some (.lst (b.length + (g.length + 2))), some (eR cs), some (eQ s), some (eR ws), some (eQ (tot (pro ws vs))), none, none, none, none, none, none, none, none]) (h1 := SH b S4 (g ++ [.lst (vs.map eQ)]))]
  rotate_left
  · rw [if_f (h1 := SH b S4 (g ++ [.lst (vs.map eQ)]))]
    · rfl
    · refine or_f (h1 := SH b S4 (g ++ [.lst (vs.map eQ)])) ?_ (or_f (h1 := SH b S4 (g ++ [.lst (vs.map eQ)])) ?_ ?_)
      · simp only [ev_c, ev_var, ev_nil, ev_cons, ev_tup, ev_lst, ev_op, ev_tst, ev_toB, ev_tru, ev_andT, ev_orT, ev_notT, ev_andV, ev_orV, ev_notV, ev_neg, ev_ifE, ev_no, ev_so, ev_sl, ev_cb, ev_isi, ev_mt, ev_lr1, ev_gc, ev_gct, ev_call, ev_nx, ev_seq, ev_exp, ev_ret, ev_if, ev_set, ev_asg, ev_par, ev_gnm, ev_gsb, ev_gsnil, ev_gscons, ev_gtp, ev_yes, ev_retR_rt, bind_ok, List.getElem?_cons_zero, List.getElem?_cons_succ, List.set_cons_zero, List.set_cons_succ, List.length_cons, List.length_nil, Nat.reduceAdd, Nat.reduceLeDiff, if_true, gc_same, gct_same, v_truB, Sm.v_add, Sm.v_sub, isL_lst, decide_true, decide_false, Bool.not_true, Bool.not_false, Bool.false_eq_true, if_false, y1, gc_np H4 (eIs_pu _), y2, gc_np H4' (eIs_pu _), ne_places, gct_drop2 H4]
      · simp only [ev_c, ev_var, ev_nil, ev_cons, ev_tup, ev_lst, ev_op, ev_tst, ev_toB, ev_tru, ev_andT, ev_orT, ev_notT, ev_andV, ev_orV, ev_notV, ev_neg, ev_ifE, ev_no, ev_so, ev_sl, ev_cb, ev_isi, ev_mt, ev_lr1, ev_gc, ev_gct, ev_call, ev_nx, ev_seq, ev_exp, ev_ret, ev_if, ev_set, ev_asg, ev_par, ev_gnm, ev_gsb, ev_gsnil, ev_gscons, ev_gtp, ev_yes, ev_retR_rt, bind_ok, List.getElem?_cons_zero, List.getElem?_cons_succ, List.set_cons_zero, List.set_cons_succ, List.length_cons, List.length_nil, Nat.reduceAdd, Nat.reduceLeDiff, if_true, gc_same, gct_same, v_truB, Sm.v_add, Sm.v_sub, isL_lst, decide_true, decide_false, Bool.not_true, Bool.not_false, Bool.false_eq_true, if_false, y4, ne_eQ, ne_same]
      · simp only [ev_c, ev_var, ev_nil, ev_cons, ev_tup, ev_lst, ev_op, ev_tst, ev_toB, ev_tru, ev_andT, ev_orT, ev_notT, ev_andV, ev_orV, ev_notV, ev_neg, ev_ifE, ev_no, ev_so, ev_sl, ev_cb, ev_isi, ev_mt, ev_lr1, ev_gc, ev_gct, ev_call, ev_nx, ev_seq, ev_exp, ev_ret, ev_if, ev_set, ev_asg, ev_par, ev_gnm, ev_gsb, ev_gsnil, ev_gscons, ev_gtp, ev_yes, ev_retR_rt, bind_ok, List.getElem?_cons_zero, List.getElem?_cons_succ, List.set_cons_zero, List.set_cons_succ, List.length_cons, List.length_nil, Nat.reduceAdd, Nat.reduceLeDiff, if_true, gc_same, gct_same, v_truB, Sm.v_add, Sm.v_sub, isL_lst, decide_true, decide_false, Bool.not_true, Bool.not_false, Bool.false_eq_true, if_false, y5, ne_eR, ne_same]
  have accW : ∀ {h : MH} {t : Rat} {os : List Rat}, Clo h → Sqn h (.lst (b.length + (g.length + 2))) (vs.map eQ) → Ok t → os.length = vs.length → SzL 60 os → m_accepts_weights [.lst (b.length + (g.length + 2)), eR cs, eQ s, eQ t, eR os] h = .ok (.bl (acc vs cs s t os)) h := fun c sv ot ho zo => e_acc c sv sqn_t hcl ho zv zc zs zo ot s0 (by decide) (by decide) (by decide) (by decide) (by decide) (by decide) (by omega)
  have aself : acc vs cs s (tot (pro ws vs)) ws = true := by rw [← hws]; exact G.acc_self
  have tself : tot ws = 1 := by rw [← hws]; exact G.sum
  rw [seq_nx (σ1 := [some (.lst (b.length + 1)), some (.int vs.length), some (.lst (b.length + (g.length + 2))), some (eR cs), some (eQ s), some (eR ws), some (eQ (tot (pro ws vs))), none, none, none, none, none, none, none, none]) (h1 := SH b S4 (g ++ [.lst (vs.map eQ)]))]
  rotate_left
  · rw [if_f (h1 := SH b S4 (g ++ [.lst (vs.map eQ)]))]
    · rfl
    · refine or_f (h1 := SH b S4 (g ++ [.lst (vs.map eQ)])) ?_ ?_
      · simp only [ev_c, ev_var, ev_nil, ev_cons, ev_tup, ev_lst, ev_op, ev_tst, ev_toB, ev_tru, ev_andT, ev_orT, ev_notT, ev_andV, ev_orV, ev_notV, ev_neg, ev_ifE, ev_no, ev_so, ev_sl, ev_cb, ev_isi, ev_mt, ev_lr1, ev_gc, ev_gct, ev_call, ev_nx, ev_seq, ev_exp, ev_ret, ev_if, ev_set, ev_asg, ev_par, ev_gnm, ev_gsb, ev_gsnil, ev_gscons, ev_gtp, ev_yes, ev_retR_rt, bind_ok, List.getElem?_cons_zero, List.getElem?_cons_succ, List.set_cons_zero, List.set_cons_succ, List.length_cons, List.length_nil, Nat.reduceAdd, Nat.reduceLeDiff, if_true, gc_same, gct_same, v_truB, Sm.v_add, Sm.v_sub, isL_lst, decide_true, decide_false, Bool.not_true, Bool.not_false, Bool.false_eq_true, if_false, accW H4 (sv S4) okW lw (zw.mono (by decide)), aself, v_isntB, ne_same]
      · have h1 : (D.tup [.int 1, .int 1]) = eQ 1 := rfl
        simp only [ev_c, ev_var, ev_nil, ev_cons, ev_tup, ev_lst, ev_op, ev_tst, ev_toB, ev_tru, ev_andT, ev_orT, ev_notT, ev_andV, ev_orV, ev_notV, ev_neg, ev_ifE, ev_no, ev_so, ev_sl, ev_cb, ev_isi, ev_mt, ev_lr1, ev_gc, ev_gct, ev_call, ev_nx, ev_seq, ev_exp, ev_ret, ev_if, ev_set, ev_asg, ev_par, ev_gnm, ev_gsb, ev_gsnil, ev_gscons, ev_gtp, ev_yes, ev_retR_rt, bind_ok, List.getElem?_cons_zero, List.getElem?_cons_succ, List.set_cons_zero, List.set_cons_succ, List.length_cons, List.length_nil, Nat.reduceAdd, Nat.reduceLeDiff, if_true, gc_same, gct_same, v_truB, Sm.v_add, Sm.v_sub, isL_lst, decide_true, decide_false, Bool.not_true, Bool.not_false, Bool.false_eq_true, if_false, e_Ltotal (h := SH b S4 (g ++ [.lst (vs.map eQ)])) (d := eR ws) sqn_t zw (by rw [lw]; omega), h1, ne_eQ, tself, ne_same]
  have hgood : ∀ {os : List Rat}, decide ((((List.range vs.length).filter fun k => decide (Vf cs k / s < Vf os k)).length : Int) = 0) = good cs s os vs.length := by
    intro os
    rw [Bool.eq_iff_iff, good_iff, decide_eq_true_eq]
    rw [show ((((List.range vs.length).filter fun k => decide (Vf cs k / s < Vf os k)).length : Int) = 0) ↔ ((List.range vs.length).filter fun k => decide (Vf cs k / s < Vf os k)) = [] by rw [← List.length_eq_zero_iff]; omega]
    rw [List.filter_eq_nil_iff]
    simp only [List.mem_range, decide_eq_true_eq, Rat.not_lt]
  obtain ⟨σ', h', x5, S5, z7, z8, z9, z10, g5, rfl, rfl⟩ := fFor_rgI (fa := fC (.int 3)) (tgt := gNm 7) (body := (fSeq (fSet 8 (fGc (fCall 2 m_Lchances (fCons (fVar 0) (fCons (fVar 1) fNil))))) (fSeq (fSet 9 (fGc (fOp dEq (fGc (fCB cLen (fCons (fGc (fLc [13] (iRg1 (fVar 1)) (gNm 13) (fTru (fGc (fCall 2 m_Lless (fCons (fGc (fCall 2 m_Lover (fCons (fOp dIx (fVar 3) (fVar 13)) (fCons (fVar 4) fNil)))) (fCons (fOp dIx (fVar 8) (fVar 13)) fNil))))) (fVar 13))) fNil))) (fC (.int 0))))) (fSeq (fSet 10 (fGc (fCall 2 m_Ldot (fCons (fVar 8) (fCons (fVar 2) fNil))))) (fSeq (fIf (fOrT (fAndT (fTru (fVar 9)) (fTru (fGc (fCall 2 m_Lless (fCons (fVar 10) (fCons (fVar 6) fNil)))))) (fGcT (fTst (fOp dNe (fGc (fCall 5 m_accepts_weights (fCons (fVar 2) (fCons (fVar 3) (fCons (fVar 4) (fCons (fVar 6) (fCons (fVar 8) fNil))))))) (fAndV (fVar 9) (fOp dEq (fVar 10) (fVar 6))))))) (fRet (fC (.bl false))) fNx) (fIf (fGcT (fTst (fOp dNe (fGc (fCall 5 m_accepts_weights (fCons (fVar 2) (fCons (fVar 3) (fCons (fVar 4) (fCons (fVar 10) (fCons (fVar 8) fNil))))))) (fVar 9)))) (fRet (fC (.bl false))) fNx)))))) (σ := [some (D.lst (b.length + 1)), some (D.int vs.length), some (D.lst (b.length + (g.length + 2))), some (eR cs), some (eQ s), some (eR ws), some (eQ (tot (pro ws vs))), none, none, none, none, none, none, none, none]) (h := SH b S4 (g ++ [HE.lst (vs.map eQ)])) (n := 3) (by simp) (by omega)
    (fun j σ h => ∃ S z7 z8 z9 z10, Gd S ∧ σ = [some (D.lst (b.length + 1)), some (D.int vs.length), some (D.lst (b.length + (g.length + 2))), some (eR cs), some (eQ s), some (eR ws), some (eQ (tot (pro ws vs))), z7, z8, z9, z10, none, none, none, none] ∧ h = SH b S (g ++ [HE.lst (vs.map eQ)])) ⟨S4, none, none, none, none, g4, rfl, rfl⟩ (by
      rintro j σ _ hj ⟨S5, z7, z8, z9, z10, g5, rfl, rfl⟩
      obtain ⟨_, S6, x6, g6, os, rfl, O⟩ := e_Lchances (b := b) (g := (g ++ [HE.lst (vs.map eQ)])) g5 hC n1 n5
      have H6 : Clo (SH b S6 (g ++ [HE.lst (vs.map eQ)])) := hC S6
      have ex := fLc_rgf (own := [13]) (fa := fVar 1) (tgt := gNm 13) (tst := fTru (fGc (fCall 2 m_Lless (fCons (fGc (fCall 2 m_Lover (fCons (fOp dIx (fVar 3) (fVar 13)) (fCons (fVar 4) fNil)))) (fCons (fOp dIx (fVar 8) (fVar 13)) fNil))))) (elt := fVar 13) (σ := [some (D.lst (b.length + 1)), some (D.int vs.length), some (D.lst (b.length + (g.length + 2))), some (eR cs), some (eQ s), some (eR ws), some (eQ (tot (pro ws vs))), some (.int j), some (eR os), z9, z10, none, none, none, none]) (h := SH b S6 (g ++ [HE.lst (vs.map eQ)])) (n := vs.length) (by simp) (by omega) (fun k => decide (Vf cs k / s < Vf os k)) eI (by
        intro k hk
        have hkc : k < cs.length := by omega
        have hko : k < os.length := by have := O.1; omega
        refine ⟨_, rfl, ?_, fun _ => by simp only [wipeD, ev_c, ev_var, ev_nil, ev_cons, ev_tup, ev_lst, ev_op, ev_tst, ev_toB, ev_tru, ev_andT, ev_orT, ev_notT, ev_andV, ev_orV, ev_notV, ev_neg, ev_ifE, ev_no, ev_so, ev_sl, ev_cb, ev_isi, ev_mt, ev_lr1, ev_gc, ev_gct, ev_call, ev_nx, ev_seq, ev_exp, ev_ret, ev_if, ev_set, ev_asg, ev_par, ev_gnm, ev_gsb, ev_gsnil, ev_gscons, ev_gtp, ev_yes, ev_retR_rt, bind_ok, List.getElem?_cons_zero, List.getElem?_cons_succ, List.set_cons_zero, List.set_cons_succ, List.length_cons, List.length_nil, Nat.reduceAdd, Nat.reduceLeDiff, if_true, gc_same, gct_same, v_truB, Sm.v_add, Sm.v_sub, isL_lst, decide_true, decide_false, Bool.not_true, Bool.not_false, Bool.false_eq_true, if_false]; rfl⟩
        simp only [wipeD, ev_c, ev_var, ev_nil, ev_cons, ev_tup, ev_lst, ev_op, ev_tst, ev_toB, ev_tru, ev_andT, ev_orT, ev_notT, ev_andV, ev_orV, ev_notV, ev_neg, ev_ifE, ev_no, ev_so, ev_sl, ev_cb, ev_isi, ev_mt, ev_lr1, ev_gc, ev_gct, ev_call, ev_nx, ev_seq, ev_exp, ev_ret, ev_if, ev_set, ev_asg, ev_par, ev_gnm, ev_gsb, ev_gsnil, ev_gscons, ev_gtp, ev_yes, ev_retR_rt, bind_ok, List.getElem?_cons_zero, List.getElem?_cons_succ, List.set_cons_zero, List.set_cons_succ, List.length_cons, List.length_nil, Nat.reduceAdd, Nat.reduceLeDiff, if_true, gc_same, gct_same, v_truB, Sm.v_add, Sm.v_sub, isL_lst, decide_true, decide_false, Bool.not_true, Bool.not_false, Bool.false_eq_true, if_false, v_ixV (h := SH b S6 (g ++ [HE.lst (vs.map eQ)])) (d := eR cs) (vs := cs) sqn_t hkc, v_ixV (h := SH b S6 (g ++ [HE.lst (vs.map eQ)])) (d := eR os) (vs := os) sqn_t hko, e_Lover (ok_Vf zc (by decide) k) (zs.mono (by decide)) (show s ≠ 0 by grind), e_Lless ((sz_div (sz_Vf zc (by decide) k) zs).mono (by decide)) (ok_Vf O.2.1 (by decide) k)])
      have hl := len_gc H6 (ds := ((List.range vs.length).filter fun k => decide (Vf cs k / s < Vf os k)).map eI)
      rw [List.length_map] at hl
      have ho := G.other O
      rw [hws] at ho
      have a1 := accW H6 (sv S6) okW O.1 (O.2.1.mono (by decide))
      have a2 := accW H6 (sv S6) (okC O) O.1 (O.2.1.mono (by decide))
      rw [G.acc_other O] at a1 a2
      have hd := dotC H6 (sv S6) O
      have hless := e_Lless (okC O) okW (SH b S6 (g ++ [HE.lst (vs.map eQ)]))
      have htt : decide (tot (pro os vs) < tot (pro os vs)) = false := decide_eq_false Rat.lt_irrefl
      refine ⟨_, _, [some (D.lst (b.length + 1)), some (D.int vs.length), some (D.lst (b.length + (g.length + 2))), some (eR cs), some (eQ s), some (eR ws), some (eQ (tot (pro ws vs))), some (.int j), some (eR os), some (.bl (good cs s os vs.length)), some (eQ (tot (pro os vs))), none, none, none, none], SH b S6 (g ++ [HE.lst (vs.map eQ)]), rfl, ?_, S6, _, _, _, _, g6, rfl, rfl⟩
      cases hg : good cs s os vs.length with
      | true =>
        rw [hg] at a1 a2
        have h1 : decide (tot (pro os vs) < tot (pro ws vs)) = false := decide_eq_false (Rat.not_lt.mpr (ho hg))
        have h2 : (!decide (tot (pro ws vs) < tot (pro os vs))) = decide (tot (pro os vs) = tot (pro ws vs)) := by
          have := ho hg
          rw [Bool.eq_iff_iff]
          simp only [Bool.not_eq_true', decide_eq_false_iff_not, decide_eq_true_eq]
          constructor
          · intro h; exact Rat.le_antisymm (Rat.not_lt.mp h) this
          · intro h; rw [h]; exact Rat.lt_irrefl
        rw [Bool.true_and, h2] at a1
        rw [Bool.true_and, htt] at a2
        simp only [ev_c, ev_var, ev_nil, ev_cons, ev_tup, ev_lst, ev_op, ev_tst, ev_toB, ev_tru, ev_andT, ev_orT, ev_notT, ev_andV, ev_orV, ev_notV, ev_neg, ev_ifE, ev_no, ev_so, ev_sl, ev_cb, ev_isi, ev_mt, ev_lr1, ev_gc, ev_gct, ev_call, ev_nx, ev_seq, ev_exp, ev_ret, ev_if, ev_set, ev_asg, ev_par, ev_gnm, ev_gsb, ev_gsnil, ev_gscons, ev_gtp, ev_yes, ev_retR_rt, bind_ok, List.getElem?_cons_zero, List.getElem?_cons_succ, List.set_cons_zero, List.set_cons_succ, List.length_cons, List.length_nil, Nat.reduceAdd, Nat.reduceLeDiff, if_true, gc_same, gct_same, v_truB, Sm.v_add, Sm.v_sub, isL_lst, decide_true, decide_false, Bool.not_true, Bool.not_false, Bool.false_eq_true, if_false, x6, gcS, ex, gc_np H6 (eIs_pu _), hl, v_eqI, hgood, hg, hd, hless, h1, a1, a2, eq_eQ, ne_bl]
      | false =>
        rw [hg] at a1 a2
        rw [Bool.false_and] at a1 a2
        simp only [ev_c, ev_var, ev_nil, ev_cons, ev_tup, ev_lst, ev_op, ev_tst, ev_toB, ev_tru, ev_andT, ev_orT, ev_notT, ev_andV, ev_orV, ev_notV, ev_neg, ev_ifE, ev_no, ev_so, ev_sl, ev_cb, ev_isi, ev_mt, ev_lr1, ev_gc, ev_gct, ev_call, ev_nx, ev_seq, ev_exp, ev_ret, ev_if, ev_set, ev_asg, ev_par, ev_gnm, ev_gsb, ev_gsnil, ev_gscons, ev_gtp, ev_yes, ev_retR_rt, bind_ok, List.getElem?_cons_zero, List.getElem?_cons_succ, List.set_cons_zero, List.set_cons_succ, List.length_cons, List.length_nil, Nat.reduceAdd, Nat.reduceLeDiff, if_true, gc_same, gct_same, v_truB, Sm.v_add, Sm.v_sub, isL_lst, decide_true, decide_false, Bool.not_true, Bool.not_false, Bool.false_eq_true, if_false, x6, gcS, ex, gc_np H6 (eIs_pu _), hl, v_eqI, hgood, hg, hd, hless, a1, a2, eq_eQ, ne_bl])
  rw [seq_nx x5]
  have H5 : Clo (SH b S5 (g ++ [HE.lst (vs.map eQ)])) := hC S5
  have H6 : Clo (SH b S5 (g ++ [HE.lst (vs.map eQ)]) ++ [HE.lst (ws.map eQ)]) := clo1 H5 (eQs_pu _)
  have H7 : Clo (SH b S5 (g ++ [HE.lst (vs.map eQ)]) ++ [HE.lst (ws.map eQ)] ++ [HE.lst [D.non, D.lst (SH b S5 (g ++ [HE.lst (vs.map eQ)])).length, eR ws.dropLast, eR (ws ++ [0]), eR ([Vf ws 0 + 1] ++ ws.tail)]]) := clo_push H6 (by
    have hx : D.cl (SH b S5 (g ++ [HE.lst (vs.map eQ)]) ++ [HE.lst (ws.map eQ)]).length (.lst (SH b S5 (g ++ [HE.lst (vs.map eQ)])).length) = true := decide_eq_true (by rw [List.length_append, List.length_singleton]; omega)
    have hp : ∀ qs : List Rat, D.cl (SH b S5 (g ++ [HE.lst (vs.map eQ)]) ++ [HE.lst (ws.map eQ)]).length (eR qs) = true := fun qs => cl_pu _ _ (eR_pu _)
    simp only [D.clL, hx, hp, Bool.and_true]
    rfl)
  have sv7 : Sqn (SH b S5 (g ++ [HE.lst (vs.map eQ)]) ++ [HE.lst (ws.map eQ)] ++ [HE.lst [D.non, D.lst (SH b S5 (g ++ [HE.lst (vs.map eQ)])).length, eR ws.dropLast, eR (ws ++ [0]), eR ([Vf ws 0 + 1] ++ ws.tail)]]) (.lst (b.length + (g.length + 2))) (vs.map eQ) := sqn_app (sqn_app (sv S5))
  have wne : ws ≠ [] := fun z => by rw [z] at lw; simp at lw; omega
  have w0 : 0 < ws.length := List.length_pos_iff.mpr wne
  have hix : dIx (eR ws) (.int 0) (SH b S5 (g ++ [HE.lst (vs.map eQ)]) ++ [HE.lst (ws.map eQ)]) = .ok (eQ (Vf ws 0)) (SH b S5 (g ++ [HE.lst (vs.map eQ)]) ++ [HE.lst (ws.map eQ)]) := v_ixV (d := eR ws) (vs := ws) (k := 0) sqn_t w0
  have okw0 : Ok (Vf ws 0) := (sz_Vf zw (by decide) 0).mono (by decide)
  have ok1 : Ok 1 := sz_1.mono (by decide)
  have h00 : (D.tup [D.tup [.int 0, .int 1]]) = eR [0] := rfl
  have h11 : (D.tup [.int 1, .int 1]) = eQ 1 := rfl
  have hw1 : (D.tup [eQ (Vf ws 0 + 1)]) = eR [Vf ws 0 + 1] := rfl
  have a1 : dAdd (eR ws) (eR [0]) (SH b S5 (g ++ [HE.lst (vs.map eQ)]) ++ [HE.lst (ws.map eQ)]) = .ok (eR (ws ++ [0])) (SH b S5 (g ++ [HE.lst (vs.map eQ)]) ++ [HE.lst (ws.map eQ)]) := add_eR (by simp; omega)
  have a2 : dAdd (eR [Vf ws 0 + 1]) (eR ws.tail) (SH b S5 (g ++ [HE.lst (vs.map eQ)]) ++ [HE.lst (ws.map eQ)]) = .ok (eR ([Vf ws 0 + 1] ++ ws.tail)) (SH b S5 (g ++ [HE.lst (vs.map eQ)]) ++ [HE.lst (ws.map eQ)]) := add_eR (by simp; omega)
  have a3 : allocD [D.non, D.lst (SH b S5 (g ++ [HE.lst (vs.map eQ)])).length, eR ws.dropLast, eR (ws ++ [0]), eR ([Vf ws 0 + 1] ++ ws.tail)] (SH b S5 (g ++ [HE.lst (vs.map eQ)]) ++ [HE.lst (ws.map eQ)]) = .ok (.lst (SH b S5 (g ++ [HE.lst (vs.map eQ)]) ++ [HE.lst (ws.map eQ)]).length) (SH b S5 (g ++ [HE.lst (vs.map eQ)]) ++ [HE.lst (ws.map eQ)] ++ [HE.lst [D.non, D.lst (SH b S5 (g ++ [HE.lst (vs.map eQ)])).length, eR ws.dropLast, eR (ws ++ [0]), eR ([Vf ws 0 + 1] ++ ws.tail)]]) := v_alloc (by simp)
  rw [seq_nx (σ1 := [some (D.lst (b.length + 1)), some (D.int vs.length), some (D.lst (b.length + (g.length + 2))), some (eR cs), some (eQ s), some (eR ws), some (eQ (tot (pro ws vs))), z7, z8, z9, z10, some (.lst (SH b S5 (g ++ [HE.lst (vs.map eQ)]) ++ [HE.lst (ws.map eQ)]).length), none, none, none]) (h1 := (SH b S5 (g ++ [HE.lst (vs.map eQ)]) ++ [HE.lst (ws.map eQ)] ++ [HE.lst [D.non, D.lst (SH b S5 (g ++ [HE.lst (vs.map eQ)])).length, eR ws.dropLast, eR (ws ++ [0]), eR ([Vf ws 0 + 1] ++ ws.tail)]]))]
  rotate_left
  · simp only [ev_c, ev_var, ev_nil, ev_cons, ev_tup, ev_lst, ev_op, ev_tst, ev_toB, ev_tru, ev_andT, ev_orT, ev_notT, ev_andV, ev_orV, ev_notV, ev_neg, ev_ifE, ev_no, ev_so, ev_sl, ev_cb, ev_isi, ev_mt, ev_lr1, ev_gc, ev_gct, ev_call, ev_nx, ev_seq, ev_exp, ev_ret, ev_if, ev_set, ev_asg, ev_par, ev_gnm, ev_gsb, ev_gsnil, ev_gscons, ev_gtp, ev_yes, ev_retR_rt, bind_ok, List.getElem?_cons_zero, List.getElem?_cons_succ, List.set_cons_zero, List.set_cons_succ, List.length_cons, List.length_nil, Nat.reduceAdd, Nat.reduceLeDiff, if_true, gc_same, gct_same, v_truB, Sm.v_add, Sm.v_sub, isL_lst, decide_true, decide_false, Bool.not_true, Bool.not_false, Bool.false_eq_true, if_false, v_list (show ws.length ≤ 1000000 by omega), gc_np H5 (eQs_pu _), cut_last wne, h00, h11, hix, a1, e_Ladd okw0 ok1, hw1, cut_tail, a2, a3]
  have ht2 : tot ([Vf ws 0 + 1] ++ ws.tail) = 2 := by
    have : ws = Vf ws 0 :: ws.tail := by
      cases ws with
      | nil => exact absurd rfl wne
      | cons w wt => rfl
    have h : tot ws = Vf ws 0 + tot ws.tail := by
      conv => lhs; rw [this]
      rfl
    rw [tot_append, tot_cons, tot_nil]
    rw [tself] at h
    grind
  have b5 : acc vs cs s (tot (pro ws vs)) ([Vf ws 0 + 1] ++ ws.tail) = false := by
    unfold acc
    rw [ht2, decide_eq_false (by decide)]
    simp only [Bool.false_and]
  have zb : SzL 60 ([Vf ws 0 + 1] ++ ws.tail) := by
    intro q m
    rcases List.mem_append.mp m with m | m
    · rw [List.mem_singleton] at m
      rw [m]
      exact (sz_add (sz_Vf zw (by decide) 0) sz_1).mono (by decide)
    · exact (zw q (List.mem_of_mem_tail m)).mono (by decide)
  have eb := fLc_mpy (own := [14]) (fe := fVar 11) (tgt := gNm 14) (elt := fGc (fCall 5 m_accepts_weights (fCons (fVar 2) (fCons (fVar 3) (fCons (fVar 4) (fCons (fVar 6) (fCons (fVar 14) fNil))))))) (σ := [some (D.lst (b.length + 1)), some (D.int vs.length), some (D.lst (b.length + (g.length + 2))), some (eR cs), some (eQ s), some (eR ws), some (eQ (tot (pro ws vs))), z7, z8, z9, z10, some (.lst (SH b S5 (g ++ [HE.lst (vs.map eQ)]) ++ [HE.lst (ws.map eQ)]).length), none, none, none]) (h := (SH b S5 (g ++ [HE.lst (vs.map eQ)]) ++ [HE.lst (ws.map eQ)] ++ [HE.lst [D.non, D.lst (SH b S5 (g ++ [HE.lst (vs.map eQ)])).length, eR ws.dropLast, eR (ws ++ [0]), eR ([Vf ws 0 + 1] ++ ws.tail)]])) (d := .lst (SH b S5 (g ++ [HE.lst (vs.map eQ)]) ++ [HE.lst (ws.map eQ)]).length) id [D.non, D.lst (SH b S5 (g ++ [HE.lst (vs.map eQ)])).length, eR ws.dropLast, eR (ws ++ [0]), eR ([Vf ws 0 + 1] ++ ws.tail)] (by rw [List.map_id]; exact sqn_new) (by simp) (by simp) (fun _ => .bl false) (by
    intro x m
    refine ⟨_, rfl, ?_⟩
    simp only [wipeD, ev_c, ev_var, ev_nil, ev_cons, ev_tup, ev_lst, ev_op, ev_tst, ev_toB, ev_tru, ev_andT, ev_orT, ev_notT, ev_andV, ev_orV, ev_notV, ev_neg, ev_ifE, ev_no, ev_so, ev_sl, ev_cb, ev_isi, ev_mt, ev_lr1, ev_gc, ev_gct, ev_call, ev_nx, ev_seq, ev_exp, ev_ret, ev_if, ev_set, ev_asg, ev_par, ev_gnm, ev_gsb, ev_gsnil, ev_gscons, ev_gtp, ev_yes, ev_retR_rt, bind_ok, List.getElem?_cons_zero, List.getElem?_cons_succ, List.set_cons_zero, List.set_cons_succ, List.length_cons, List.length_nil, Nat.reduceAdd, Nat.reduceLeDiff, if_true, gc_same, gct_same, v_truB, Sm.v_add, Sm.v_sub, isL_lst, decide_true, decide_false, Bool.not_true, Bool.not_false, Bool.false_eq_true, if_false, id]
    simp only [List.mem_cons, List.not_mem_nil, or_false] at m
    rcases m with rfl | rfl | rfl | rfl | rfl
    · rw [e_accN H7 sv7 rfl, gc_same]
    · rw [e_accN H7 sv7 rfl, gc_same]
    · rw [e_accX H7 sv7 (by simp; omega) (by simp; omega), gc_same]
    · rw [e_accX H7 sv7 (by simp; omega) (by simp; omega), gc_same]
    · rw [accW H7 sv7 okW (by simp; omega) zb, b5, gc_same])
  have ef : ([D.non, D.lst (SH b S5 (g ++ [HE.lst (vs.map eQ)])).length, eR ws.dropLast, eR (ws ++ [0]), eR ([Vf ws 0 + 1] ++ ws.tail)].map fun _ => D.bl false) = [false, false, false, false, false].map D.bl := rfl
  rw [ef] at eb
  have H8 : Clo ((SH b S5 (g ++ [HE.lst (vs.map eQ)]) ++ [HE.lst (ws.map eQ)] ++ [HE.lst [D.non, D.lst (SH b S5 (g ++ [HE.lst (vs.map eQ)])).length, eR ws.dropLast, eR (ws ++ [0]), eR ([Vf ws 0 + 1] ++ ws.tail)]]) ++ [.lst ([false, false, false, false, false].map D.bl)]) := clo1 H7 rfl
  have er := rep_gc (h := (SH b S5 (g ++ [HE.lst (vs.map eQ)]) ++ [HE.lst (ws.map eQ)] ++ [HE.lst [D.non, D.lst (SH b S5 (g ++ [HE.lst (vs.map eQ)])).length, eR ws.dropLast, eR (ws ++ [0]), eR ([Vf ws 0 + 1] ++ ws.tail)]]) ++ [.lst ([false, false, false, false, false].map D.bl)]) H8 (n := 5) (x := .bl false) (by decide) rfl
  have erl : List.replicate 5 (D.bl false) = [false, false, false, false, false].map D.bl := rfl
  rw [erl] at er
  have ea : allocD [.bl false] ((SH b S5 (g ++ [HE.lst (vs.map eQ)]) ++ [HE.lst (ws.map eQ)] ++ [HE.lst [D.non, D.lst (SH b S5 (g ++ [HE.lst (vs.map eQ)])).length, eR ws.dropLast, eR (ws ++ [0]), eR ([Vf ws 0 + 1] ++ ws.tail)]]) ++ [.lst ([false, false, false, false, false].map D.bl)]) = .ok (.lst ((SH b S5 (g ++ [HE.lst (vs.map eQ)]) ++ [HE.lst (ws.map eQ)] ++ [HE.lst [D.non, D.lst (SH b S5 (g ++ [HE.lst (vs.map eQ)])).length, eR ws.dropLast, eR (ws ++ [0]), eR ([Vf ws 0 + 1] ++ ws.tail)]]) ++ [HE.lst ([false, false, false, false, false].map D.bl)]).length) ((SH b S5 (g ++ [HE.lst (vs.map eQ)]) ++ [HE.lst (ws.map eQ)] ++ [HE.lst [D.non, D.lst (SH b S5 (g ++ [HE.lst (vs.map eQ)])).length, eR ws.dropLast, eR (ws ++ [0]), eR ([Vf ws 0 + 1] ++ ws.tail)]]) ++ [.lst ([false, false, false, false, false].map D.bl)] ++ [.lst [.bl false]]) := v_alloc (by simp)
  have en : dNe (.lst (SH b S5 (g ++ [HE.lst (vs.map eQ)]) ++ [HE.lst (ws.map eQ)] ++ [HE.lst [D.non, D.lst (SH b S5 (g ++ [HE.lst (vs.map eQ)])).length, eR ws.dropLast, eR (ws ++ [0]), eR ([Vf ws 0 + 1] ++ ws.tail)]]).length) (.lst ((SH b S5 (g ++ [HE.lst (vs.map eQ)]) ++ [HE.lst (ws.map eQ)] ++ [HE.lst [D.non, D.lst (SH b S5 (g ++ [HE.lst (vs.map eQ)])).length, eR ws.dropLast, eR (ws ++ [0]), eR ([Vf ws 0 + 1] ++ ws.tail)]]) ++ [HE.lst ([false, false, false, false, false].map D.bl)]).length) ((SH b S5 (g ++ [HE.lst (vs.map eQ)]) ++ [HE.lst (ws.map eQ)] ++ [HE.lst [D.non, D.lst (SH b S5 (g ++ [HE.lst (vs.map eQ)])).length, eR ws.dropLast, eR (ws ++ [0]), eR ([Vf ws 0 + 1] ++ ws.tail)]]) ++ [.lst ([false, false, false, false, false].map D.bl)] ++ [.lst ([false, false, false, false, false].map D.bl)]) = .ok (.bl false) ((SH b S5 (g ++ [HE.lst (vs.map eQ)]) ++ [HE.lst (ws.map eQ)] ++ [HE.lst [D.non, D.lst (SH b S5 (g ++ [HE.lst (vs.map eQ)])).length, eR ws.dropLast, eR (ws ++ [0]), eR ([Vf ws 0 + 1] ++ ws.tail)]]) ++ [.lst ([false, false, false, false, false].map D.bl)] ++ [.lst ([false, false, false, false, false].map D.bl)]) := by
    rw [v_neBL (as := [false, false, false, false, false]) (bs := [false, false, false, false, false]) (by simp) (by simp)]
    rfl
  rw [seq_nx (σ1 := [some (D.lst (b.length + 1)), some (D.int vs.length), some (D.lst (b.length + (g.length + 2))), some (eR cs), some (eQ s), some (eR ws), some (eQ (tot (pro ws vs))), z7, z8, z9, z10, some (.lst (SH b S5 (g ++ [HE.lst (vs.map eQ)]) ++ [HE.lst (ws.map eQ)]).length), none, none, none]) (h1 := (SH b S5 (g ++ [HE.lst (vs.map eQ)]) ++ [HE.lst (ws.map eQ)] ++ [HE.lst [D.non, D.lst (SH b S5 (g ++ [HE.lst (vs.map eQ)])).length, eR ws.dropLast, eR (ws ++ [0]), eR ([Vf ws 0 + 1] ++ ws.tail)]]))]
  rotate_left
  · rw [if_f (h1 := (SH b S5 (g ++ [HE.lst (vs.map eQ)]) ++ [HE.lst (ws.map eQ)] ++ [HE.lst [D.non, D.lst (SH b S5 (g ++ [HE.lst (vs.map eQ)])).length, eR ws.dropLast, eR (ws ++ [0]), eR ([Vf ws 0 + 1] ++ ws.tail)]]))]
    · rfl
    · rw [show ((5 : Nat) : Int) = 5 from rfl] at er
      simp only [ev_c, ev_var, ev_nil, ev_cons, ev_tup, ev_lst, ev_op, ev_tst, ev_toB, ev_tru, ev_andT, ev_orT, ev_notT, ev_andV, ev_orV, ev_notV, ev_neg, ev_ifE, ev_no, ev_so, ev_sl, ev_cb, ev_isi, ev_mt, ev_lr1, ev_gc, ev_gct, ev_call, ev_nx, ev_seq, ev_exp, ev_ret, ev_if, ev_set, ev_asg, ev_par, ev_gnm, ev_gsb, ev_gsnil, ev_gscons, ev_gtp, ev_yes, ev_retR_rt, bind_ok, List.getElem?_cons_zero, List.getElem?_cons_succ, List.set_cons_zero, List.set_cons_succ, List.length_cons, List.length_nil, Nat.reduceAdd, Nat.reduceLeDiff, if_true, gc_same, gct_same, v_truB, Sm.v_add, Sm.v_sub, isL_lst, decide_true, decide_false, Bool.not_true, Bool.not_false, Bool.false_eq_true, if_false, eb, gc_np H7 (show D.puL ([false, false, false, false, false].map D.bl) = true from rfl), ea, er, en, gct_drop2 H7]
  have hp5 := e_Lpart (a := 1) (b := 100) (by decide) (by
    refine Nat.lt_of_lt_of_le (show (100 : Int).natAbs < 2 ^ 7 by decide) ?_
    exact Nat.pow_le_pow_right (by decide) (by decide)) (SH b S5 (g ++ [HE.lst (vs.map eQ)]) ++ [HE.lst (ws.map eQ)] ++ [HE.lst [D.non, D.lst (SH b S5 (g ++ [HE.lst (vs.map eQ)])).length, eR ws.dropLast, eR (ws ++ [0]), eR ([Vf ws 0 + 1] ++ ws.tail)]])
  rw [seq_nx (σ1 := [some (D.lst (b.length + 1)), some (D.int vs.length), some (D.lst (b.length + (g.length + 2))), some (eR cs), some (eQ s), some (eR ws), some (eQ (tot (pro ws vs))), z7, z8, z9, z10, some (.lst (SH b S5 (g ++ [HE.lst (vs.map eQ)]) ++ [HE.lst (ws.map eQ)]).length), some (eQ (Q 1 100)), none, none]) (h1 := (SH b S5 (g ++ [HE.lst (vs.map eQ)]) ++ [HE.lst (ws.map eQ)] ++ [HE.lst [D.non, D.lst (SH b S5 (g ++ [HE.lst (vs.map eQ)])).length, eR ws.dropLast, eR (ws ++ [0]), eR ([Vf ws 0 + 1] ++ ws.tail)]]))]
  rotate_left
  · simp only [ev_c, ev_var, ev_nil, ev_cons, ev_tup, ev_lst, ev_op, ev_tst, ev_toB, ev_tru, ev_andT, ev_orT, ev_notT, ev_andV, ev_orV, ev_notV, ev_neg, ev_ifE, ev_no, ev_so, ev_sl, ev_cb, ev_isi, ev_mt, ev_lr1, ev_gc, ev_gct, ev_call, ev_nx, ev_seq, ev_exp, ev_ret, ev_if, ev_set, ev_asg, ev_par, ev_gnm, ev_gsb, ev_gsnil, ev_gscons, ev_gtp, ev_yes, ev_retR_rt, bind_ok, List.getElem?_cons_zero, List.getElem?_cons_succ, List.set_cons_zero, List.set_cons_succ, List.length_cons, List.length_nil, Nat.reduceAdd, Nat.reduceLeDiff, if_true, gc_same, gct_same, v_truB, Sm.v_add, Sm.v_sub, isL_lst, decide_true, decide_false, Bool.not_true, Bool.not_false, Bool.false_eq_true, if_false, hp5]
  have v1 : m_worst [.lst (b.length + (g.length + 2)), eR cs, eQ 1] (SH b S5 (g ++ [HE.lst (vs.map eQ)]) ++ [HE.lst (ws.map eQ)] ++ [HE.lst [D.non, D.lst (SH b S5 (g ++ [HE.lst (vs.map eQ)])).length, eR ws.dropLast, eR (ws ++ [0]), eR ([Vf ws 0 + 1] ++ ws.tail)]]) = .ok (eQ (tot (pro cs vs))) (SH b S5 (g ++ [HE.lst (vs.map eQ)]) ++ [HE.lst (ws.map eQ)] ++ [HE.lst [D.non, D.lst (SH b S5 (g ++ [HE.lst (vs.map eQ)])).length, eR ws.dropLast, eR (ws ++ [0]), eR ([Vf ws 0 + 1] ++ ws.tail)]]) := by
    rw [← wv_one hcl hc0 hch.2.2.2 hso]
    exact e_worst (A := 31) H7 sv7 sqn_t hcl zv zc sz_1 (by decide) (by decide) (by decide) (by decide) (by omega) (by omega) (by decide) hso
  obtain ⟨q, qs, hq⟩ : ∃ q qs, vs = q :: qs := by
    cases vs with
    | nil => simp at n1
    | cons q qs => exact ⟨q, qs, rfl⟩
  have sz7 : Sz 7 (Q 1 100) := sz_divInt (by decide) (by decide) (by decide)
  have v2 : m_worst [.lst (b.length + (g.length + 2)), eR cs, eQ (Q 1 100)] (SH b S5 (g ++ [HE.lst (vs.map eQ)]) ++ [HE.lst (ws.map eQ)] ++ [HE.lst [D.non, D.lst (SH b S5 (g ++ [HE.lst (vs.map eQ)])).length, eR ws.dropLast, eR (ws ++ [0]), eR ([Vf ws 0 + 1] ++ ws.tail)]]) = .ok (eQ (mnF q qs)) (SH b S5 (g ++ [HE.lst (vs.map eQ)]) ++ [HE.lst (ws.map eQ)] ++ [HE.lst [D.non, D.lst (SH b S5 (g ++ [HE.lst (vs.map eQ)])).length, eR ws.dropLast, eR (ws ++ [0]), eR ([Vf ws 0 + 1] ++ ws.tail)]]) := by
    have q0 : 0 < Q 1 100 := by decide
    rw [← wv_small (s := Q 1 100) hq hcl hch.2.2.1 q0 (by decide +kernel) hso]
    exact e_worst (A := 37) H7 sv7 sqn_t hcl zv zc sz7 q0 (by decide) (by decide) (by decide) (by omega) (by omega) (by decide) hso
  have v3 : m_Lleast [.lst (b.length + (g.length + 2))] (SH b S5 (g ++ [HE.lst (vs.map eQ)]) ++ [HE.lst (ws.map eQ)] ++ [HE.lst [D.non, D.lst (SH b S5 (g ++ [HE.lst (vs.map eQ)])).length, eR ws.dropLast, eR (ws ++ [0]), eR ([Vf ws 0 + 1] ++ ws.tail)]]) = .ok (eQ (mnF q qs)) (SH b S5 (g ++ [HE.lst (vs.map eQ)]) ++ [HE.lst (ws.map eQ)] ++ [HE.lst [D.non, D.lst (SH b S5 (g ++ [HE.lst (vs.map eQ)])).length, eR ws.dropLast, eR (ws ++ [0]), eR ([Vf ws 0 + 1] ++ ws.tail)]]) := e_Lleast (by rw [← hq]; exact sv7) (by rw [← hq]; exact zv.mono (by decide))
  have v4 := dotC H7 sv7 hch
  rw [seq_nx (σ1 := [some (D.lst (b.length + 1)), some (D.int vs.length), some (D.lst (b.length + (g.length + 2))), some (eR cs), some (eQ s), some (eR ws), some (eQ (tot (pro ws vs))), z7, z8, z9, z10, some (.lst (SH b S5 (g ++ [HE.lst (vs.map eQ)]) ++ [HE.lst (ws.map eQ)]).length), some (eQ (Q 1 100)), none, none]) (h1 := (SH b S5 (g ++ [HE.lst (vs.map eQ)]) ++ [HE.lst (ws.map eQ)] ++ [HE.lst [D.non, D.lst (SH b S5 (g ++ [HE.lst (vs.map eQ)])).length, eR ws.dropLast, eR (ws ++ [0]), eR ([Vf ws 0 + 1] ++ ws.tail)]]))]
  rotate_left
  · rw [if_f (h1 := (SH b S5 (g ++ [HE.lst (vs.map eQ)]) ++ [HE.lst (ws.map eQ)] ++ [HE.lst [D.non, D.lst (SH b S5 (g ++ [HE.lst (vs.map eQ)])).length, eR ws.dropLast, eR (ws ++ [0]), eR ([Vf ws 0 + 1] ++ ws.tail)]]))]
    · rfl
    · refine or_f (h1 := (SH b S5 (g ++ [HE.lst (vs.map eQ)]) ++ [HE.lst (ws.map eQ)] ++ [HE.lst [D.non, D.lst (SH b S5 (g ++ [HE.lst (vs.map eQ)])).length, eR ws.dropLast, eR (ws ++ [0]), eR ([Vf ws 0 + 1] ++ ws.tail)]])) ?_ ?_
      · simp only [ev_c, ev_var, ev_nil, ev_cons, ev_tup, ev_lst, ev_op, ev_tst, ev_toB, ev_tru, ev_andT, ev_orT, ev_notT, ev_andV, ev_orV, ev_notV, ev_neg, ev_ifE, ev_no, ev_so, ev_sl, ev_cb, ev_isi, ev_mt, ev_lr1, ev_gc, ev_gct, ev_call, ev_nx, ev_seq, ev_exp, ev_ret, ev_if, ev_set, ev_asg, ev_par, ev_gnm, ev_gsb, ev_gsnil, ev_gscons, ev_gtp, ev_yes, ev_retR_rt, bind_ok, List.getElem?_cons_zero, List.getElem?_cons_succ, List.set_cons_zero, List.set_cons_succ, List.length_cons, List.length_nil, Nat.reduceAdd, Nat.reduceLeDiff, if_true, gc_same, gct_same, v_truB, Sm.v_add, Sm.v_sub, isL_lst, decide_true, decide_false, Bool.not_true, Bool.not_false, Bool.false_eq_true, if_false, h11, v1, v4, ne_eQ]
      · simp only [ev_c, ev_var, ev_nil, ev_cons, ev_tup, ev_lst, ev_op, ev_tst, ev_toB, ev_tru, ev_andT, ev_orT, ev_notT, ev_andV, ev_orV, ev_notV, ev_neg, ev_ifE, ev_no, ev_so, ev_sl, ev_cb, ev_isi, ev_mt, ev_lr1, ev_gc, ev_gct, ev_call, ev_nx, ev_seq, ev_exp, ev_ret, ev_if, ev_set, ev_asg, ev_par, ev_gnm, ev_gsb, ev_gsnil, ev_gscons, ev_gtp, ev_yes, ev_retR_rt, bind_ok, List.getElem?_cons_zero, List.getElem?_cons_succ, List.set_cons_zero, List.set_cons_succ, List.length_cons, List.length_nil, Nat.reduceAdd, Nat.reduceLeDiff, if_true, gc_same, gct_same, v_truB, Sm.v_add, Sm.v_sub, isL_lst, decide_true, decide_false, Bool.not_true, Bool.not_false, Bool.false_eq_true, if_false, v2, v3, ne_eQ]
  refine ⟨S5, [.lst (vs.map eQ), .lst (ws.map eQ), .lst [D.non, D.lst (SH b S5 (g ++ [HE.lst (vs.map eQ)])).length, eR ws.dropLast, eR (ws ++ [0]), eR ([Vf ws 0 + 1] ++ ws.tail)]], ?_, g5⟩
  have v5 := e_Lless (okC hch) okW (SH b S5 (g ++ [HE.lst (vs.map eQ)]) ++ [HE.lst (ws.map eQ)] ++ [HE.lst [D.non, D.lst (SH b S5 (g ++ [HE.lst (vs.map eQ)])).length, eR ws.dropLast, eR (ws ++ [0]), eR ([Vf ws 0 + 1] ++ ws.tail)]])
  have v6 : decide (tot (pro cs vs) < tot (pro ws vs)) = false := decide_eq_false (Rat.not_lt.mpr (by rw [← hws]; exact G.mean))
  rw [v6] at v5
  simp only [ev_c, ev_var, ev_nil, ev_cons, ev_tup, ev_lst, ev_op, ev_tst, ev_toB, ev_tru, ev_andT, ev_orT, ev_notT, ev_andV, ev_orV, ev_notV, ev_neg, ev_ifE, ev_no, ev_so, ev_sl, ev_cb, ev_isi, ev_mt, ev_lr1, ev_gc, ev_gct, ev_call, ev_nx, ev_seq, ev_exp, ev_ret, ev_if, ev_set, ev_asg, ev_par, ev_gnm, ev_gsb, ev_gsnil, ev_gscons, ev_gtp, ev_yes, ev_retR_rt, bind_ok, List.getElem?_cons_zero, List.getElem?_cons_succ, List.set_cons_zero, List.set_cons_succ, List.length_cons, List.length_nil, Nat.reduceAdd, Nat.reduceLeDiff, if_true, gc_same, gct_same, v_truB, Sm.v_add, Sm.v_sub, isL_lst, decide_true, decide_false, Bool.not_true, Bool.not_false, Bool.false_eq_true, if_false, v4, v5]
  simp [SH]
end Lw

/-! k47_E6: the law's shapes of trees. -/
namespace Lw
open PySem PySem.Spec PyProof.Rows L2 Sm Sq
/-! ### plain -/
/-- nodes behind and depths, up to depth t -/
def Lv (t : Nat) (F : List (Option Nat)) (ds : List Nat) : Prop :=
  F.length = ds.length ∧ F[0]? = some none ∧ (∀ k, 0 < k → k < F.length → ∃ p d, F[k]? = some (some p) ∧ p < k ∧ ds[p]? = some d ∧ ds[k]? = some (d + 1)) ∧ (∀ p, F.count (some p) ≤ 3) ∧ ∀ d ∈ ds, d ≤ t
theorem Lv.add {T : Nat} {F : List (Option Nat)} {ds : List Nat} {node d c : Nat} (h : Lv T F ds) (hn : node < F.length) (hd : ds[node]? = some d) (hT : d + 1 ≤ T) (hc : F.count (some node) + c ≤ 3) :
    Lv T (F ++ List.replicate c (some node)) (ds ++ List.replicate c (d + 1)) := by
  obtain ⟨h1, h2, h3, h4, h5⟩ := h
  refine ⟨by simp [h1], by rw [List.getElem?_append_left (by omega)]; exact h2, fun k k0 kl => ?_, fun p => ?_, fun x m => ?_⟩
  · by_cases l : k < F.length
    · obtain ⟨p, e, a1, a2, a3, a4⟩ := h3 k k0 l
      exact ⟨p, e, by rw [List.getElem?_append_left l]; exact a1, a2, by rw [List.getElem?_append_left (by omega)]; exact a3, by rw [List.getElem?_append_left (by omega)]; exact a4⟩
    · rw [List.length_append, List.length_replicate] at kl
      exact ⟨node, d, by rw [List.getElem?_append_right (by omega), List.getElem?_replicate, if_pos (by omega)], by omega, by rw [List.getElem?_append_left (by omega)]; exact hd, by rw [List.getElem?_append_right (by omega), List.getElem?_replicate, if_pos (by omega)]⟩
  · rw [List.count_append, List.count_replicate]
    by_cases e : p = node
    · subst e; simp; omega
    · rw [if_neg (by simpa using fun z => e z.symm)]; exact h4 p
  · rcases List.mem_append.mp m with m | m
    · exact h5 x m
    · rw [List.eq_of_mem_replicate m]; exact hT
theorem Lv.mono {t T : Nat} {F : List (Option Nat)} {ds : List Nat} (h : Lv t F ds) (l : t ≤ T) : Lv T F ds := ⟨h.1, h.2.1, h.2.2.1, h.2.2.2.1, fun d m => Nat.le_trans (h.2.2.2.2 d m) l⟩
/-- what a row of nodes behind has to keep -/
structure WF (ps : List (Option Nat)) : Prop where
  len : ps.length ≤ 40
  two : 2 ≤ ps.length
  root : ps[0]? = some none
  par : ∀ k, 0 < k → k < ps.length → ∃ p, ps[k]? = some (some p) ∧ p < k
  few : ∀ p, (kd ps p).length ≤ 3
  deep : ∃ dp : Nat → Nat, (∀ k p, ps[k]? = some (some p) → dp k = dp p + 1) ∧ ∀ k, dp k ≤ 3
theorem kd_count {ps : List (Option Nat)} {p : Nat} : (kd ps p).length = ps.count (some p) := by
  have e : ps = (List.range ps.length).map (fun i => ps[i]?.getD none) := by
    apply List.ext_getElem?
    intro i
    by_cases l : i < ps.length
    · simp [l]
    · rw [List.getElem?_eq_none (by omega), List.getElem?_eq_none (by simp; omega)]
  conv => rhs; rw [e]
  rw [List.count, List.countP_map, List.countP_eq_length_filter]
  unfold kd
  congr 1
  apply List.filter_congr
  intro j m
  rw [List.mem_range] at m
  simp only [Function.comp, List.getElem?_eq_getElem m, Option.getD_some, Option.some_beq_some]
theorem Lv.wf {F : List (Option Nat)} {ds : List Nat} (h : Lv 3 F ds) (l : F.length ≤ 40) (l2 : 2 ≤ F.length) : WF F := by
  obtain ⟨h1, h2, h3, h4, h5⟩ := h
  refine ⟨l, l2, h2, fun k k0 kl => ?_, fun p => by rw [kd_count]; exact h4 p, fun k => ds[k]?.getD 0, fun k p e => ?_, fun k => ?_⟩
  · obtain ⟨p, _, a, b, _⟩ := h3 k k0 kl; exact ⟨p, a, b⟩
  · have kl := (List.getElem?_eq_some_iff.mp e).1
    have k0 : 0 < k := by
      rcases Nat.eq_zero_or_pos k with z | z
      · subst z; rw [h2] at e; cases e
      · exact z
    obtain ⟨p', d, a, _, c1, c2⟩ := h3 k k0 kl
    rw [a] at e
    cases e
    show ds[k]?.getD 0 = ds[p]?.getD 0 + 1
    rw [c1, c2]; rfl
  · show ds[k]?.getD 0 ≤ 3
    by_cases kl : k < ds.length
    · rw [List.getElem?_eq_getElem kl]; exact h5 _ (List.getElem_mem _)
    · rw [List.getElem?_eq_none (by omega)]; simp
/-! ### heaps with rows of nodes -/
section
variable {b g : MH} {S : List Int × Int} {F F' : List (Option Nat)} {R : MH}
def HS (b g : MH) (S : List Int × Int) (F : List (Option Nat)) (R : MH) : MH := SH b S (g ++ (.lst (F.map eP) :: R))
theorem hs_F : (HS b g S F R)[b.length + (g.length + 2)]? = some (.lst (F.map eP)) := by
  unfold HS
  rw [show b.length + (g.length + 2) = b.length + 2 + g.length by omega, SH_g]; simp
theorem hs_R {i : Nat} : (HS b g S F R)[b.length + (g.length + 2) + 1 + i]? = R[i]? := by
  unfold HS
  rw [show b.length + (g.length + 2) + 1 + i = b.length + 2 + (g.length + (i + 1)) by omega, SH_g, List.getElem?_append_right (by omega), show g.length + (i + 1) - g.length = i + 1 by omega]
  rfl
theorem hs_len : (HS b g S F R).length = b.length + (g.length + 2) + 1 + R.length := by
  unfold HS; rw [SH_length]; simp; omega
theorem hs_setF : (HS b g S F R).set (b.length + (g.length + 2)) (.lst (F'.map eP)) = HS b g S F' R := by
  unfold HS
  rw [show b.length + (g.length + 2) = b.length + 2 + g.length by omega, SH_setg, List.set_append_right _ _ (by omega), Nat.sub_self]; rfl
theorem hs_setR {i : Nat} {x : HE} : (HS b g S F R).set (b.length + (g.length + 2) + 1 + i) x = HS b g S F (R.set i x) := by
  unfold HS
  rw [show b.length + (g.length + 2) + 1 + i = b.length + 2 + (g.length + (i + 1)) by omega, SH_setg, List.set_append_right _ _ (by omega), show g.length + (i + 1) - g.length = i + 1 by omega]; rfl
theorem hs_app {a : HE} : HS b g S F R ++ [a] = HS b g S F (R ++ [a]) := by
  unfold HS; rw [SH_app]; simp
end
theorem fFor_rgH {fa : FE} {tgt : FG} {body : FS} {σ : Sg} {h0 h : MH} {n : Nat} (e : fa σ h0 = .ok (.int n) h) (l : n ≤ 1000000) (I : Nat → Sg → MH → Prop) (i0 : I 0 σ h)
    (hs : ∀ (j : Nat) (σ : Sg) (h : MH), j < n → I j σ h → ∃ σ1 h1 σ2 h2, tgt (.int j) σ h = .ok σ1 h1 ∧ body σ1 h1 = .ok (.nx σ2) h2 ∧ I (j + 1) σ2 h2) :
    ∃ σ' h', fFor (iRg1 fa) tgt body σ h0 = .ok (.nx σ') h' ∧ I n σ' h' := by
  have e1 : iRg1 fa σ h0 = .ok (.vals ((List.range n).map fun i : Nat => D.int (i : Int))) h := by
    simp only [iRg1, e, bind_ok, iRg]
    rw [if_pos (by omega)]
    simp [rgD]
  rw [fFor_eq e1 rfl]
  obtain ⟨σ', h', a, b⟩ := forGo_inv (chk := fun h => (It'.vals ((List.range n).map fun i : Nat => D.int (i : Int))).chk ((List.range n).map fun i : Nat => D.int (i : Int)) h) (tgt := tgt) (body := body) I ((List.range n).map fun i : Nat => D.int (i : Int)) 0 σ h i0 (fun _ _ _ _ => rfl) (fun j d σ h e z => by
    rw [Nat.zero_add] at z ⊢
    rw [List.getElem?_map, Option.map_eq_some_iff] at e
    obtain ⟨i, e, rfl⟩ := e
    obtain ⟨hj, rfl⟩ := List.getElem?_eq_some_iff.mp e
    rw [List.getElem_range] at *
    obtain ⟨σ1, h1, σ2, h2, a, b, c⟩ := hs j σ h (by simpa using hj) z
    exact ⟨σ1, h1, .nx σ2, h2, σ2, a, b, .inl rfl, c⟩)
  rw [Nat.zero_add] at b
  exact ⟨σ', h', a, by simpa using b⟩
section
variable {b g : MH}
/-- one node gets c nodes ahead -/
theorem shape_in {S0 S : List Int × Int} {F : List (Option Nat)} {R : MH} {A : List Nat} {h0 : MH} {fa : FE} {c node : Nat} {v0 v1 v2 v4 v5 : D} {z8 : Option D} (c3 : c ≤ 3) (hF : F.length < 900) (hA : A.length < 900)
    (e : fa [some v0, some v1, some v2, some (.lst (b.length + (g.length + 2))), some v4, some v5, some (.lst (b.length + (g.length + 2) + 1 + R.length)), some (.int node), z8] h0 = .ok (.int c) (HS b g S F (R ++ [.lst (A.map eI)]))) :
    ∃ z8', fFor (iRg1 fa) (gNm 8) (fSeq (fExp (fMt mAppend (fVar 6) (fCons (fCB cLen (fCons (fVar 3) fNil)) fNil))) (fExp (fMt mAppend (fVar 3) (fCons (fVar 7) fNil)))) [some v0, some v1, some v2, some (.lst (b.length + (g.length + 2))), some v4, some v5, some (.lst (b.length + (g.length + 2) + 1 + R.length)), some (.int node), z8] h0
      = .ok (.nx [some v0, some v1, some v2, some (.lst (b.length + (g.length + 2))), some v4, some v5, some (.lst (b.length + (g.length + 2) + 1 + R.length)), some (.int node), z8']) (HS b g S (F ++ List.replicate c (some node)) (R ++ [.lst ((A ++ List.range' F.length c).map eI)])) := by
  obtain ⟨σ', h', e1, z', rfl, rfl⟩ := fFor_rgH (tgt := gNm 8) (body := fSeq (fExp (fMt mAppend (fVar 6) (fCons (fCB cLen (fCons (fVar 3) fNil)) fNil))) (fExp (fMt mAppend (fVar 3) (fCons (fVar 7) fNil)))) e (by omega)
    (fun j σ h => ∃ z, σ = [some v0, some v1, some v2, some (.lst (b.length + (g.length + 2))), some v4, some v5, some (.lst (b.length + (g.length + 2) + 1 + R.length)), some (.int node), z] ∧ h = HS b g S (F ++ List.replicate j (some node)) (R ++ [.lst ((A ++ List.range' F.length j).map eI)])) ⟨z8, rfl, by simp⟩ (by
      rintro j σ _ hj ⟨z, rfl, rfl⟩
      have e1 : cLen [.lst (b.length + (g.length + 2))] (HS b g S (F ++ List.replicate j (some node)) (R ++ [.lst ((A ++ List.range' F.length j).map eI)])) = .ok (.int ((F.length + j : Nat) : Int)) (HS b g S (F ++ List.replicate j (some node)) (R ++ [.lst ((A ++ List.range' F.length j).map eI)])) := by
        rw [v_len (dI_lst hs_F)]; simp
      have e2 : mAppend (.lst (b.length + (g.length + 2) + 1 + R.length)) [.int ((F.length + j : Nat) : Int)] (HS b g S (F ++ List.replicate j (some node)) (R ++ [.lst ((A ++ List.range' F.length j).map eI)])) = .ok .non (HS b g S (F ++ List.replicate j (some node)) (R ++ [.lst ((A ++ List.range' F.length (j + 1)).map eI)])) := by
        rw [v_append (ds := (A ++ List.range' F.length j).map eI) (by rw [hs_R]; simp) (by simp; omega), hs_setR, List.set_append_right _ _ (by omega), Nat.sub_self]
        simp [List.range'_concat, eI]
      have e3 : mAppend (.lst (b.length + (g.length + 2))) [.int node] (HS b g S (F ++ List.replicate j (some node)) (R ++ [.lst ((A ++ List.range' F.length (j + 1)).map eI)])) = .ok .non (HS b g S (F ++ List.replicate (j + 1) (some node)) (R ++ [.lst ((A ++ List.range' F.length (j + 1)).map eI)])) := by
        rw [v_append hs_F (by simp; omega), show (F ++ List.replicate j (some node)).map eP ++ [D.int node] = (F ++ List.replicate (j + 1) (some node)).map eP by simp [List.replicate_succ', eP], hs_setF]
      refine ⟨_, _, _, _, rfl, ?_, some (.int j), rfl, rfl⟩
      simp only [ev_c, ev_var, ev_nil, ev_cons, ev_tup, ev_lst, ev_op, ev_tst, ev_toB, ev_tru, ev_andT, ev_orT, ev_notT, ev_andV, ev_orV, ev_notV, ev_neg, ev_ifE, ev_no, ev_so, ev_sl, ev_cb, ev_isi, ev_mt, ev_lr1, ev_gc, ev_gct, ev_call, ev_nx, ev_seq, ev_exp, ev_ret, ev_if, ev_set, ev_asg, ev_par, ev_gnm, ev_gsb, ev_gsnil, ev_gscons, ev_gtp, ev_yes, ev_retR_rt, bind_ok, List.getElem?_cons_zero, List.getElem?_cons_succ, List.set_cons_zero, List.set_cons_succ, List.length_cons, List.length_nil, Nat.reduceAdd, Nat.reduceLeDiff, if_true, gc_same, gct_same, v_truB, Sm.v_add, Sm.v_sub, isL_lst, decide_true, decide_false, Bool.not_true, Bool.not_false, Bool.false_eq_true, if_false, e1, e2, e3])
  exact ⟨z', e1⟩
/-- what holds while a level is walked -/
structure Md (t : Nat) (F0 : List (Option Nat)) (ls : List Nat) (j : Nat) (F : List (Option Nat)) (ds A : List Nat) : Prop where
  lv : Lv (t + 1) F ds
  len : F.length = F0.length + A.length
  nw : A = List.range' F0.length A.length
  few : A.length ≤ 3 * j
  low : j ≤ A.length
  old : ∀ p ∈ ls.drop j, p < F0.length ∧ ds[p]? = some t ∧ F.count (some p) = 0
  fresh : ∀ q, F0.length ≤ q → F.count (some q) = 0
  dep : ∀ q ∈ A, ds[q]? = some (t + 1)
theorem Md.step {t : Nat} {F0 F : List (Option Nat)} {ls ds A : List Nat} {j node c : Nat} (M : Md t F0 ls j F ds A) (nd : ls.Nodup) (e : ls[j]? = some node) (c3 : c ≤ 3) (c1 : 1 ≤ c) :
    Md t F0 ls (j + 1) (F ++ List.replicate c (some node)) (ds ++ List.replicate c (t + 1)) (A ++ List.range' F.length c) := by
  have hd : ls.drop j = node :: ls.drop (j + 1) := by
    obtain ⟨hj, rfl⟩ := List.getElem?_eq_some_iff.mp e
    exact List.drop_eq_getElem_cons hj
  have hn := M.old node (by rw [hd]; exact List.mem_cons_self ..)
  have nd2 : (node :: ls.drop (j + 1)).Nodup := by rw [← hd]; exact nd.sublist (List.drop_sublist ..)
  have hl := M.lv.1
  refine ⟨M.lv.add (by have := M.len; omega) hn.2.1 (Nat.le_refl _) (by rw [hn.2.2]; omega), ?_, ?_, ?_, ?_, ?_, ?_, ?_⟩
  · rw [List.length_append, List.length_replicate, List.length_append, List.length_range', M.len]; omega
  · have := M.nw
    rw [List.length_append, List.length_range', M.len]
    conv => lhs; lhs; rw [this]
    rw [List.range'_append_1]
  · rw [List.length_append, List.length_range']; have := M.few; omega
  · rw [List.length_append, List.length_range']; have := M.low; omega
  · intro p m
    have := M.old p (by rw [hd]; exact List.mem_cons_of_mem _ m)
    have hp := (List.getElem?_eq_some_iff.mp this.2.1).1
    refine ⟨this.1, by rw [List.getElem?_append_left hp]; exact this.2.1, ?_⟩
    have hne : p ≠ node := fun z => (List.nodup_cons.mp nd2).1 (z ▸ m)
    rw [List.count_append, this.2.2, List.count_replicate, if_neg (by simpa using fun z => hne z.symm)]
  · intro q hq
    have hne : q ≠ node := fun z => by have := hn.1; omega
    rw [List.count_append, M.fresh q hq, List.count_replicate, if_neg (by simpa using fun z => hne z.symm)]
  · intro q m
    rcases List.mem_append.mp m with m | m
    · have := M.dep q m
      rw [List.getElem?_append_left (List.getElem?_eq_some_iff.mp this).1]; exact this
    · rw [List.mem_range'_1] at m
      rw [List.getElem?_append_right (by omega), List.getElem?_replicate, if_pos (by omega)]
/-- what holds between the levels -/
structure Lf (t : Nat) (F : List (Option Nat)) (ds ls : List Nat) : Prop where
  lv : Lv t F ds
  nd : ls.Nodup
  at_ : ∀ p ∈ ls, p < F.length ∧ ds[p]? = some t ∧ F.count (some p) = 0
  out : ∀ q, F.length ≤ q → F.count (some q) = 0
  few : ls.length ≤ 3 ^ t
  len : 2 * F.length + 1 ≤ 3 ^ (t + 1)
  ne : 1 ≤ ls.length
  big : t + 1 ≤ F.length
theorem Lf.md {t : Nat} {F : List (Option Nat)} {ds ls : List Nat} (L : Lf t F ds ls) : Md t F ls 0 F ds [] :=
  ⟨L.lv.mono (by omega), by simp, rfl, by simp, by simp, fun p m => L.at_ p (by simpa using m), L.out, fun q m => by cases m⟩
theorem Md.lf {t : Nat} {F0 F : List (Option Nat)} {ls ds ds0 A : List Nat} (L : Lf t F0 ds0 ls) (M : Md t F0 ls ls.length F ds A) : Lf (t + 1) F ds A := by
  have h1 := L.few
  have h2 := M.few
  have h3 := M.len
  have h4 := L.len
  refine ⟨M.lv, by rw [M.nw]; exact List.nodup_range', fun p m => ?_, fun q hq => M.fresh q (by omega), ?_, ?_, by have := M.low; have := L.ne; omega, by have := M.low; have := L.ne; have := L.big; omega⟩
  · have := M.nw
    have hp : F0.length ≤ p ∧ p < F0.length + A.length := by rw [this, List.mem_range'_1] at m; exact m
    exact ⟨by omega, M.dep p m, M.fresh p hp.1⟩
  · rw [Nat.pow_succ]; omega
  · rw [Nat.pow_succ] at h4 ⊢
    rw [Nat.pow_succ]; omega
theorem pow3 {t : Nat} (h : t ≤ 3) : 3 ^ t ≤ 27 := Nat.le_trans (Nat.pow_le_pow_right (by decide) h) (by decide)
/-- one level -/
theorem shape_mid {S : List Int × Int} {F : List (Option Nat)} {ds ls : List Nat} {R : MH} {i t : Nat} {z7 z8 : Option D} {mm : D} (hS : Gd S) (L : Lf t F ds ls) (t3 : t < 3) (hi : R[i]? = some (.lst (ls.map eI))) :
    ∃ S' F' ds' A' z7' z8', fFor (iSeq (fVar 4)) (gNm 7) (fFor (iRg1 (fGc (fOp dAdd (fC (.int 1)) (fGc (fCall 2 m_Ltake (fCons (fVar 0) (fCons (fIfE (fTst (fOp dEq (fVar 5) (fC (.int 0)))) (fVar 2) (fC (.int 2))) fNil))))))) (gNm 8) (fSeq (fExp (fMt mAppend (fVar 6) (fCons (fCB cLen (fCons (fVar 3) fNil)) fNil))) (fExp (fMt mAppend (fVar 3) (fCons (fVar 7) fNil)))))
      [some (.lst (b.length + 1)), some mm, some (.int 3), some (.lst (b.length + (g.length + 2))), some (.lst (b.length + (g.length + 2) + 1 + i)), some (.int t), some (.lst (b.length + (g.length + 2) + 1 + R.length)), z7, z8] (HS b g S F (R ++ [.lst []]))
      = .ok (.nx [some (.lst (b.length + 1)), some mm, some (.int 3), some (.lst (b.length + (g.length + 2))), some (.lst (b.length + (g.length + 2) + 1 + i)), some (.int t), some (.lst (b.length + (g.length + 2) + 1 + R.length)), z7', z8']) (HS b g S' F' (R ++ [.lst (A'.map eI)])) ∧ Gd S' ∧ Lf (t + 1) F' ds' A' := by
  have hil : i < R.length := (List.getElem?_eq_some_iff.mp hi).1
  have hh : ∀ S F A, (HS b g S F (R ++ [.lst A]))[b.length + (g.length + 2) + 1 + i]? = some (.lst (ls.map eI)) := fun S F A => by
    rw [hs_R, List.getElem?_append_left hil, hi]
  have hf1 := L.few
  have hf2 := L.len
  have hp1 := pow3 (t := t) (by omega)
  have hp2 : 3 ^ (t + 1) ≤ 27 := pow3 (by omega)
  obtain ⟨σ', h', e, S', F', ds', A', z7', z8', gS', rfl, rfl, M⟩ := fFor_lstI (fe := fVar 4) (tgt := gNm 7) (body := fFor (iRg1 (fGc (fOp dAdd (fC (.int 1)) (fGc (fCall 2 m_Ltake (fCons (fVar 0) (fCons (fIfE (fTst (fOp dEq (fVar 5) (fC (.int 0)))) (fVar 2) (fC (.int 2))) fNil))))))) (gNm 8) (fSeq (fExp (fMt mAppend (fVar 6) (fCons (fCB cLen (fCons (fVar 3) fNil)) fNil))) (fExp (fMt mAppend (fVar 3) (fCons (fVar 7) fNil)))))
    (σ := [some (.lst (b.length + 1)), some mm, some (.int 3), some (.lst (b.length + (g.length + 2))), some (.lst (b.length + (g.length + 2) + 1 + i)), some (.int t), some (.lst (b.length + (g.length + 2) + 1 + R.length)), z7, z8]) (h := HS b g S F (R ++ [.lst []])) (ds := ls.map eI) (n := b.length + (g.length + 2) + 1 + i) (by simp) (hh S F [])
    (fun j σ h => ∃ S' F' ds' A' z7' z8', Gd S' ∧ σ = [some (.lst (b.length + 1)), some mm, some (.int 3), some (.lst (b.length + (g.length + 2))), some (.lst (b.length + (g.length + 2) + 1 + i)), some (.int t), some (.lst (b.length + (g.length + 2) + 1 + R.length)), z7', z8'] ∧ h = HS b g S' F' (R ++ [.lst (A'.map eI)]) ∧ Md t F ls j F' ds' A')
    ⟨S, F, ds, [], z7, z8, hS, rfl, rfl, L.md⟩ (by
      rintro j σ _ ⟨S', F', ds', A', z7', z8', gS', rfl, rfl, M⟩
      exact hh _ _ _) (by
      rintro j d σ _ ej ⟨S', F', ds', A', z7', z8', gS', rfl, rfl, M⟩
      rw [List.getElem?_map, Option.map_eq_some_iff] at ej
      obtain ⟨node, ej, rfl⟩ := ej
      have jl := (List.getElem?_eq_some_iff.mp ej).1
      have hA := M.few
      have hF := M.len
      obtain ⟨c, e, c3, c1⟩ : ∃ c : Nat, (∃ S2, Gd S2 ∧ (fGc (fOp dAdd (fC (.int 1)) (fGc (fCall 2 m_Ltake (fCons (fVar 0) (fCons (fIfE (fTst (fOp dEq (fVar 5) (fC (.int 0)))) (fVar 2) (fC (.int 2))) fNil)))))) [some (.lst (b.length + 1)), some mm, some (.int 3), some (.lst (b.length + (g.length + 2))), some (.lst (b.length + (g.length + 2) + 1 + i)), some (.int t), some (.lst (b.length + (g.length + 2) + 1 + R.length)), some (.int node), z8'] (HS b g S' F' (R ++ [.lst (A'.map eI)])) = .ok (.int c) (HS b g S2 F' (R ++ [.lst (A'.map eI)]))) ∧ c ≤ 3 ∧ 1 ≤ c := by
        have key : ∀ mx : Int, 0 < mx → mx ≤ 3 → ∃ (c : Nat) (S2 : List Int × Int), Gd S2 ∧ ((m_Ltake [.lst (b.length + 1), .int mx] (HS b g S' F' (R ++ [.lst (A'.map eI)]))).bind fun d h => dAdd (.int 1) d h) = .ok (.int c) (HS b g S2 F' (R ++ [.lst (A'.map eI)])) ∧ c ≤ 3 ∧ 1 ≤ c := by
          intro mx h0 h3
          obtain ⟨_, S2, x, g2, k, rfl, k0, k1⟩ := e_Ltake (b := b) (g := g ++ (.lst (F'.map eP) :: (R ++ [.lst (A'.map eI)]))) gS' h0 (show mx < 2 ^ 60 by omega)
          refine ⟨(1 + k).toNat, S2, g2, ?_, by omega, by omega⟩
          have x' : m_Ltake [.lst (b.length + 1), .int mx] (HS b g S' F' (R ++ [.lst (A'.map eI)])) = .ok (.int k) (HS b g S2 F' (R ++ [.lst (A'.map eI)])) := x
          rw [x', bind_ok, Sm.v_add, Int.toNat_of_nonneg (by omega)]
        have hl : ∀ S2 : List Int × Int, (HS b g S2 F' (R ++ [.lst (A'.map eI)])).length = (HS b g S' F' (R ++ [.lst (A'.map eI)])).length := fun S2 => by rw [hs_len, hs_len]
        by_cases t0 : t = 0
        · subst t0
          obtain ⟨c, S2, g2, x, c3⟩ := key 3 (by decide) (by decide)
          refine ⟨c, ⟨S2, g2, ?_⟩, c3⟩
          cases q : m_Ltake [.lst (b.length + 1), .int 3] (HS b g S' F' (R ++ [.lst (A'.map eI)])) with
          | err => rw [q] at x; cases x
          | exc a b c => rw [q] at x; cases x
          | ok d h =>
            rw [q, bind_ok] at x
            have hd : h = HS b g S2 F' (R ++ [.lst (A'.map eI)]) := by
              cases d <;> simp [dAdd] at x
              exact x.2
            subst hd
            have hz : decide (((0 : Nat) : Int) = 0) = true := rfl
            simp only [ev_c, ev_var, ev_nil, ev_cons, ev_tup, ev_lst, ev_op, ev_tst, ev_toB, ev_tru, ev_andT, ev_orT, ev_notT, ev_andV, ev_orV, ev_notV, ev_neg, ev_ifE, ev_no, ev_so, ev_sl, ev_cb, ev_isi, ev_mt, ev_lr1, ev_gc, ev_gct, ev_call, ev_nx, ev_seq, ev_exp, ev_ret, ev_if, ev_set, ev_asg, ev_par, ev_gnm, ev_gsb, ev_gsnil, ev_gscons, ev_gtp, ev_yes, ev_retR_rt, bind_ok, List.getElem?_cons_zero, List.getElem?_cons_succ, List.set_cons_zero, List.set_cons_succ, List.length_cons, List.length_nil, Nat.reduceAdd, Nat.reduceLeDiff, if_true, gc_same, gct_same, v_truB, Sm.v_add, Sm.v_sub, isL_lst, decide_true, decide_false, Bool.not_true, Bool.not_false, Bool.false_eq_true, if_false, v_eqI, hz, q, gc_len (h := []) (hl S2), x]
        · obtain ⟨c, S2, g2, x, c3⟩ := key 2 (by decide) (by decide)
          refine ⟨c, ⟨S2, g2, ?_⟩, c3⟩
          cases q : m_Ltake [.lst (b.length + 1), .int 2] (HS b g S' F' (R ++ [.lst (A'.map eI)])) with
          | err => rw [q] at x; cases x
          | exc a b c => rw [q] at x; cases x
          | ok d h =>
            rw [q, bind_ok] at x
            have hd : h = HS b g S2 F' (R ++ [.lst (A'.map eI)]) := by
              cases d <;> simp [dAdd] at x
              exact x.2
            subst hd
            have hz : decide ((t : Int) = 0) = false := decide_eq_false (by omega)
            simp only [ev_c, ev_var, ev_nil, ev_cons, ev_tup, ev_lst, ev_op, ev_tst, ev_toB, ev_tru, ev_andT, ev_orT, ev_notT, ev_andV, ev_orV, ev_notV, ev_neg, ev_ifE, ev_no, ev_so, ev_sl, ev_cb, ev_isi, ev_mt, ev_lr1, ev_gc, ev_gct, ev_call, ev_nx, ev_seq, ev_exp, ev_ret, ev_if, ev_set, ev_asg, ev_par, ev_gnm, ev_gsb, ev_gsnil, ev_gscons, ev_gtp, ev_yes, ev_retR_rt, bind_ok, List.getElem?_cons_zero, List.getElem?_cons_succ, List.set_cons_zero, List.set_cons_succ, List.length_cons, List.length_nil, Nat.reduceAdd, Nat.reduceLeDiff, if_true, gc_same, gct_same, v_truB, Sm.v_add, Sm.v_sub, isL_lst, decide_true, decide_false, Bool.not_true, Bool.not_false, Bool.false_eq_true, if_false, v_eqI, hz, q, gc_len (h := []) (hl S2), x]
      obtain ⟨S2, g2, e⟩ := e
      obtain ⟨z8'', e2⟩ := shape_in (b := b) (g := g) (S0 := S') (S := S2) (F := F') (R := R) (A := A') (c := c) (node := node) c3 (by omega) (by omega) e
      exact ⟨_, _, _, _, rfl, e2, S2, _, ds' ++ List.replicate c (t + 1), _, some (.int node), z8'', g2, rfl, rfl, M.step L.nd ej c3 c1⟩)
  rw [List.length_map] at M
  exact ⟨S', F', ds', A', z7', z8', e, gS', M.lf L⟩
end
end Lw

/-! k47_E7: the law's trees. -/
namespace Lw
open PySem PySem.Spec PyProof.Rows L2 Sm Sq
section
variable {b g : MH}
/-- a new list kept by the sweep at a call's end -/
theorem gc_SHk {S : List Int × Int} {R : MH} {ds : List D} {n : Nat} (c : CloS b g) (l : n = b.length + (g.length + 2)) (p : D.puL ds = true) : gcR n (.ok (.lst n) (SH b S (g ++ (.lst ds :: R)))) = .ok (.lst n) (SH b S (g ++ [.lst ds])) := by
  have e0 : SH b S (g ++ (.lst ds :: R)) = SH b S g ++ (.lst ds :: R) := SH_assoc
  have e1 : (SH b S g).length = n := by rw [SH_length, l]
  have e2 : ¬ (SH b S (g ++ (HE.lst ds :: R))).length = n := by rw [SH_length]; simp; omega
  have e3 : (SH b S (g ++ (HE.lst ds :: R))).take n = SH b S g := by rw [e0]; exact List.take_left' e1
  have e4 : (SH b S (g ++ (HE.lst ds :: R)))[n]? = some (.lst ds) := by rw [e0, List.getElem?_append_right (by omega), e1, Nat.sub_self]; rfl
  have c' : clH n (SH b S g) = true := by have : Clo (SH b S g) := c S; unfold Clo at this; rw [e1] at this; exact this
  have e5 : (D.lst n).cl n = false := by simp [D.cl]
  have e6 : D.clL n ds = true := clL_pu _ _ p
  unfold gcR
  simp only [if_neg e2, e3, c', if_true, e5, Bool.false_eq_true, if_false, e4]
  rw [if_pos ⟨Nat.le_refl _, e6⟩, SH_app]
theorem e_Lshape {S : List Int × Int} (hS : Gd S) (c : CloS b g) {mm : Nat} (m3 : mm ≤ 3) (m1 : 1 ≤ mm) : ∃ S' ps, m_Lshape [.lst (b.length + 1), .int mm, .int 3] (SH b S g) = .ok (.lst (b.length + (g.length + 2))) (SH b S' (g ++ [.lst (ps.map eP)])) ∧ Gd S' ∧ WF ps := by
  have e1 : allocD [D.non] (SH b S g) = .ok (.lst (b.length + (g.length + 2))) (SH b S (g ++ [.lst [D.non]])) := by
    rw [v_alloc (by simp), SH_length, SH_app]
  have e2 : allocD [D.int 0] (SH b S (g ++ [.lst [D.non]])) = .ok (.lst (b.length + (g.length + 2) + 1 + 0)) (HS b g S [none] [.lst ([0].map eI)]) := by
    rw [v_alloc (by simp), SH_length, SH_app]
    unfold HS
    simp [eP, eI]
    omega
  obtain ⟨σ', h', e, S', F, R, ds, ls, i, z5, z6, z7, z8, gS', rfl, rfl, hi, L⟩ := fFor_rgI (fa := fVar 1) (tgt := gNm 5) (body := fSeq (fSet 6 (fLst fNil)) (fSeq (fFor (iSeq (fVar 4)) (gNm 7) (fFor (iRg1 (fGc (fOp dAdd (fC (.int 1)) (fGc (fCall 2 m_Ltake (fCons (fVar 0) (fCons (fIfE (fTst (fOp dEq (fVar 5) (fC (.int 0)))) (fVar 2) (fC (.int 2))) fNil))))))) (gNm 8) (fSeq (fExp (fMt mAppend (fVar 6) (fCons (fCB cLen (fCons (fVar 3) fNil)) fNil))) (fExp (fMt mAppend (fVar 3) (fCons (fVar 7) fNil)))))) (fSet 4 (fVar 6))))
    (σ := [some (.lst (b.length + 1)), some (.int mm), some (.int 3), some (.lst (b.length + (g.length + 2))), some (.lst (b.length + (g.length + 2) + 1 + 0)), none, none, none, none]) (h := HS b g S [none] [.lst ([0].map eI)]) (n := mm) (by simp) (by omega)
    (fun t σ h => ∃ S F R ds ls i z5 z6 z7 z8, Gd S ∧ σ = [some (.lst (b.length + 1)), some (.int mm), some (.int 3), some (.lst (b.length + (g.length + 2))), some (.lst (b.length + (g.length + 2) + 1 + i)), z5, z6, z7, z8] ∧ h = HS b g S F R ∧ R[i]? = some (.lst (ls.map eI)) ∧ Lf t F ds ls)
    ⟨S, [none], [.lst ([0].map eI)], [0], [0], 0, none, none, none, none, hS, rfl, rfl, rfl, ⟨⟨rfl, rfl, (fun k k0 kl => by simp at kl; omega), (fun p => by simp), (fun d m => by simp at m; omega)⟩, by simp, (fun p m => by simp at m; subst m; exact ⟨by simp, rfl, by simp⟩), (fun q hq => by simp), by simp, by simp, by simp, by simp⟩⟩ (by
      rintro t σ _ ht ⟨S, F, R, ds, ls, i, z5, z6, z7, z8, gS, rfl, rfl, hi, L⟩
      obtain ⟨S', F', ds', A', z7', z8', em, gS', L'⟩ := shape_mid (b := b) (g := g) (R := R) (i := i) (z7 := z7) (z8 := z8) (mm := .int mm) gS L (by omega) hi
      have ea : allocD [] (HS b g S F R) = .ok (.lst (b.length + (g.length + 2) + 1 + R.length)) (HS b g S F (R ++ [.lst []])) := by
        rw [v_alloc (by simp), hs_len, hs_app]
      refine ⟨_, _, [some (.lst (b.length + 1)), some (.int mm), some (.int 3), some (.lst (b.length + (g.length + 2))), some (.lst (b.length + (g.length + 2) + 1 + R.length)), some (.int t), some (.lst (b.length + (g.length + 2) + 1 + R.length)), z7', z8'], HS b g S' F' (R ++ [.lst (A'.map eI)]), rfl, ?_, S', F', R ++ [.lst (A'.map eI)], ds', A', R.length, some (.int t), some (.lst (b.length + (g.length + 2) + 1 + R.length)), z7', z8', gS', rfl, rfl, by simp, L'⟩
      simp only [ev_c, ev_var, ev_nil, ev_cons, ev_tup, ev_lst, ev_op, ev_tst, ev_toB, ev_tru, ev_andT, ev_orT, ev_notT, ev_andV, ev_orV, ev_notV, ev_neg, ev_ifE, ev_no, ev_so, ev_sl, ev_cb, ev_isi, ev_mt, ev_lr1, ev_gc, ev_gct, ev_call, ev_nx, ev_seq, ev_exp, ev_ret, ev_if, ev_set, ev_asg, ev_par, ev_gnm, ev_gsb, ev_gsnil, ev_gscons, ev_gtp, ev_yes, ev_retR_rt, bind_ok, List.getElem?_cons_zero, List.getElem?_cons_succ, List.set_cons_zero, List.set_cons_succ, List.length_cons, List.length_nil, Nat.reduceAdd, Nat.reduceLeDiff, if_true, gc_same, gct_same, v_truB, Sm.v_add, Sm.v_sub, isL_lst, decide_true, decide_false, Bool.not_true, Bool.not_false, Bool.false_eq_true, if_false, ea, em])
  have hlen : F.length ≤ 40 := by
    have h1 := L.len
    have : 3 ^ (mm + 1) ≤ 3 ^ 4 := Nat.pow_le_pow_right (by decide) (by omega)
    have h2 : 3 ^ 4 = 81 := by decide
    omega
  have hpu : D.puL (F.map eP) = true := (puL_iff _).mpr fun d m => by obtain ⟨q, _, rfl⟩ := List.mem_map.mp m; exact eP_pu q
  refine ⟨S', F, ?_, gS', (L.lv.mono m3).wf hlen (by have := L.big; omega)⟩
  unfold m_Lshape mOf b_Lshape
  have hst : startD 9 [D.lst (b.length + 1), .int mm, .int 3] = [some (.lst (b.length + 1)), some (.int mm), some (.int 3), none, none, none, none, none, none] := rfl
  have hk := gc_SHk (S := S') (R := R) (ds := F.map eP) (n := (SH b S g).length) c SH_length hpu
  rw [SH_length] at hk
  rw [hst]
  simp only [ev_c, ev_var, ev_nil, ev_cons, ev_tup, ev_lst, ev_op, ev_tst, ev_toB, ev_tru, ev_andT, ev_orT, ev_notT, ev_andV, ev_orV, ev_notV, ev_neg, ev_ifE, ev_no, ev_so, ev_sl, ev_cb, ev_isi, ev_mt, ev_lr1, ev_gc, ev_gct, ev_call, ev_nx, ev_seq, ev_exp, ev_ret, ev_if, ev_set, ev_asg, ev_par, ev_gnm, ev_gsb, ev_gsnil, ev_gscons, ev_gtp, ev_yes, ev_retR_rt, bind_ok, List.getElem?_cons_zero, List.getElem?_cons_succ, List.set_cons_zero, List.set_cons_succ, List.length_cons, List.length_nil, Nat.reduceAdd, Nat.reduceLeDiff, if_true, gc_same, gct_same, v_truB, Sm.v_add, Sm.v_sub, isL_lst, decide_true, decide_false, Bool.not_true, Bool.not_false, Bool.false_eq_true, if_false, e1, e2, e, SH_length]
  exact hk
end
end Lw

/-! k47_E8: the law's trees, with prices. -/
namespace Lw
open PySem PySem.Spec PyProof.Rows L2 Sm Sq
section
variable {b g : MH}
/-- a part drawn -/
theorem draw_part {S : List Int × Int} {σ : Sg} (hS : Gd S) (hσ : σ[0]? = some (some (.lst (b.length + 1)))) {mx my : Int} (x0 : 0 < mx) (x6 : mx ≤ 6) (y0 : 0 < my) (y6 : my ≤ 6) :
    Drw b g (fun d => ∃ q : Rat, d = eQ q ∧ Sz 3 q) (fGc (fCall 2 m_Lpart (fCons (fGc (fOp dAdd (fC (.int 1)) (fGc (fCall 2 m_Ltake (fCons (fVar 0) (fCons (fC (.int mx)) fNil)))))) (fCons (fGc (fOp dAdd (fC (.int 1)) (fGc (fCall 2 m_Ltake (fCons (fVar 0) (fCons (fC (.int my)) fNil)))))) fNil))) σ (SH b S g)) := by
  obtain ⟨_, S1, x1, g1, i, rfl, i0, i1⟩ := e_Ltake (b := b) (g := g) hS x0 (show mx < 2 ^ 60 by omega)
  obtain ⟨_, S2, x2, g2, j, rfl, j0, j1⟩ := e_Ltake (b := b) (g := g) g1 y0 (show my < 2 ^ 60 by omega)
  have h8 : (2 : Nat) ^ 3 = 8 := by decide
  have hp := e_Lpart (a := 1 + i) (b := 1 + j) (by omega) (by
    refine Nat.lt_of_lt_of_le (show (1 + j).natAbs < 2 ^ 3 by omega) ?_
    exact Nat.pow_le_pow_right (by decide) (by decide)) (SH b S2 g)
  refine ⟨eQ (Q (1 + i) (1 + j)), S2, ?_, g2, _, rfl, sz_divInt (by omega) (by omega) (by omega)⟩
  simp only [ev_c, ev_var, ev_nil, ev_cons, ev_tup, ev_lst, ev_op, ev_tst, ev_toB, ev_tru, ev_andT, ev_orT, ev_notT, ev_andV, ev_orV, ev_notV, ev_neg, ev_ifE, ev_no, ev_so, ev_sl, ev_cb, ev_isi, ev_mt, ev_lr1, ev_gc, ev_gct, ev_call, ev_nx, ev_seq, ev_exp, ev_ret, ev_if, ev_set, ev_asg, ev_par, ev_gnm, ev_gsb, ev_gsnil, ev_gscons, ev_gtp, ev_yes, ev_retR_rt, bind_ok, List.getElem?_cons_zero, List.getElem?_cons_succ, List.set_cons_zero, List.set_cons_succ, List.length_cons, List.length_nil, Nat.reduceAdd, Nat.reduceLeDiff, if_true, gc_same, gct_same, v_truB, Sm.v_add, Sm.v_sub, isL_lst, decide_true, decide_false, Bool.not_true, Bool.not_false, Bool.false_eq_true, if_false, hσ, x1, gcS, x2, hp]
/-- rows of parts -/
theorem rows_of {c : Nat} {vd : List D} (h : ∀ (j : Nat) (v : D), vd[j]? = some v → ∃ q : Rat, v = eQ q ∧ Sz c q) : ∃ qs : List Rat, vd = qs.map eQ ∧ SzL c qs := by
  induction vd with
  | nil => exact ⟨[], rfl, fun _ m => by cases m⟩
  | cons v vd ih =>
    obtain ⟨qs, rfl, z⟩ := ih fun j v e => h (j + 1) v (by simpa using e)
    obtain ⟨q, rfl, zq⟩ := h 0 v rfl
    refine ⟨q :: qs, rfl, fun x m => ?_⟩
    rcases List.mem_cons.mp m with rfl | m
    · exact zq
    · exact z x m
/-- how large prices may be, this many steps from an end -/
def pz : Nat → Nat
  | 0 => 3
  | i + 1 => 3 * (3 + pz i + 1) + 1
theorem pz_mono {i j : Nat} (h : i ≤ j) : pz i ≤ pz j := by
  induction j with
  | zero => rw [Nat.le_zero.mp h]; exact Nat.le_refl _
  | succ j ih =>
    rcases Nat.lt_or_ge j i with l | l
    · rw [show i = j + 1 by omega]; exact Nat.le_refl _
    · exact Nat.le_trans (ih l) (by show pz j ≤ 3 * (3 + pz j + 1) + 1; omega)
theorem pz_3 : pz 3 ≤ 4000 := by decide
theorem pz_ge {i : Nat} : 3 ≤ pz i := pz_mono (i := 0) (by omega)
def Pur (J : MH) : Prop := ∀ e ∈ J, ∃ ds, e = .lst ds ∧ D.puL ds = true
theorem clos_pur {b g : MH} (c : CloS b g) : ∀ {J : MH}, Pur J → CloS b (g ++ J)
  | [], _ => by simpa using c
  | e :: J, h => by
    obtain ⟨ds, rfl, p⟩ := h e (List.mem_cons_self ..)
    have := clos_pur (c.pushP p) (J := J) fun x m => h x (List.mem_cons_of_mem _ m)
    simpa using this
theorem Pur.push {J : MH} (h : Pur J) {ds : List D} (p : D.puL ds = true) : Pur (J ++ [.lst ds]) := fun e m => by
  rcases List.mem_append.mp m with m | m
  · exact h e m
  · rw [List.mem_singleton] at m; exact ⟨ds, m, p⟩
theorem eP_puL {ps : List (Option Nat)} : D.puL (ps.map eP) = true := (puL_iff _).mpr fun d m => by obtain ⟨q, _, rfl⟩ := List.mem_map.mp m; exact eP_pu q
theorem pur2 {ps : List (Option Nat)} {P : List D} {J : MH} (hP : D.puL P = true) (hJ : Pur J) : Pur (.lst (ps.map eP) :: .lst P :: J) := fun e m => by
  rcases List.mem_cons.mp m with rfl | m
  · exact ⟨_, rfl, eP_puL⟩
  · rcases List.mem_cons.mp m with rfl | m
    · exact ⟨_, rfl, hP⟩
    · exact hJ e m
/-- the heap while prices are told -/
def HT' (b g : MH) (S : List Int × Int) (ps : List (Option Nat)) (P : List D) (J : MH) : MH := SH b S (g ++ (.lst (ps.map eP) :: .lst P :: J))
section
variable {S S2 : List Int × Int} {ps : List (Option Nat)} {P P' : List D} {J : MH}
theorem ht_0 : (HT' b g S ps P J)[b.length + (g.length + 2)]? = some (.lst (ps.map eP)) := hs_F
theorem ht_1 : (HT' b g S ps P J)[b.length + (g.length + 2) + 1]? = some (.lst P) := by
  have := hs_R (b := b) (g := g) (S := S) (F := ps) (R := .lst P :: J) (i := 0)
  unfold HT'; unfold HS at this; simpa using this
theorem ht_J {i : Nat} : (HT' b g S ps P J)[b.length + (g.length + 2) + 2 + i]? = J[i]? := by
  have := hs_R (b := b) (g := g) (S := S) (F := ps) (R := .lst P :: J) (i := i + 1)
  rw [show b.length + (g.length + 2) + 1 + (i + 1) = b.length + (g.length + 2) + 2 + i by omega] at this
  unfold HT'; unfold HS at this; simpa using this
theorem ht_len : (HT' b g S ps P J).length = b.length + (g.length + 2) + 2 + J.length := by
  have := hs_len (b := b) (g := g) (S := S) (F := ps) (R := .lst P :: J)
  rw [List.length_cons] at this
  unfold HT'
  unfold HS at this
  omega
theorem ht_app {a : HE} : HT' b g S ps P J ++ [a] = HT' b g S ps P (J ++ [a]) := by unfold HT'; rw [SH_app]; simp
theorem ht_set : (HT' b g S ps P J).set (b.length + (g.length + 2) + 1) (.lst P') = HT' b g S ps P' J := by
  have := hs_setR (b := b) (g := g) (S := S) (F := ps) (R := .lst P :: J) (i := 0) (x := .lst P')
  unfold HT'; unfold HS at this; simpa using this
theorem ht_clo (c : CloS b g) (hP : D.puL P = true) (hJ : Pur J) : CloS b (g ++ (.lst (ps.map eP) :: .lst P :: J)) := clos_pur c (pur2 hP hJ)
theorem ht_setD {k : Nat} {v : D} (l : k < P.length) : setD (.lst (b.length + (g.length + 2) + 1)) (.int k) v (HT' b g S ps P J) = .ok () (HT' b g S ps (P.set k v) J) := by
  simp only [setD, ht_1, ixN_nat l, ht_set]
end
/-- a list counted down -/
theorem rgDn_eq (n : Nat) : rgDn ((n : Int) - 1) (-1) = (List.range n).map fun i => D.int (((n - 1 - i : Nat) : Int)) := by
  unfold rgDn
  rw [show ((n : Int) - 1 - -1).toNat = n by omega]
  apply List.map_congr_left
  intro i m
  rw [List.mem_range] at m
  congr 1
  omega
theorem fFor_dn {fa : FE} {tgt : FG} {body : FS} {σ : Sg} {h : MH} {n : Nat} (e : fa σ h = .ok (.int ((n : Int) - 1)) h) (l : n ≤ 1000000) (I : Nat → Sg → MH → Prop) (i0 : I 0 σ h)
    (hs : ∀ (j : Nat) (σ : Sg) (h : MH), j < n → I j σ h → ∃ σ1 h1 σ2 h2, tgt (.int ((n - 1 - j : Nat) : Int)) σ h = .ok σ1 h1 ∧ body σ1 h1 = .ok (.nx σ2) h2 ∧ I (j + 1) σ2 h2) :
    ∃ σ' h', fFor (iRgN fa (fNeg (fC (.int 1))) (fNeg (fC (.int 1)))) tgt body σ h = .ok (.nx σ') h' ∧ I n σ' h' := by
  have e1 : iRgN fa (fNeg (fC (.int 1))) (fNeg (fC (.int 1))) σ h = .ok (.vals ((List.range n).map fun i => D.int (((n - 1 - i : Nat) : Int)))) h := by
    simp only [iRgN, e, bind_ok, ev_neg, ev_c]
    rw [show (-(1 : Int)) = -1 from rfl]
    simp only [rgDn_eq]
    rw [if_pos (by omega)]
  rw [fFor_eq e1 rfl]
  obtain ⟨σ', h', a, b⟩ := forGo_inv (chk := fun h => (It'.vals ((List.range n).map fun i => D.int (((n - 1 - i : Nat) : Int)))).chk ((List.range n).map fun i => D.int (((n - 1 - i : Nat) : Int))) h) (tgt := tgt) (body := body) I ((List.range n).map fun i => D.int (((n - 1 - i : Nat) : Int))) 0 σ h i0 (fun _ _ _ _ => rfl) (fun j d σ h e z => by
    rw [Nat.zero_add] at z ⊢
    rw [List.getElem?_map, Option.map_eq_some_iff] at e
    obtain ⟨i, e, rfl⟩ := e
    obtain ⟨hj, rfl⟩ := List.getElem?_eq_some_iff.mp e
    rw [List.getElem_range] at *
    obtain ⟨σ1, h1, σ2, h2, a, b, c⟩ := hs j σ h (by simpa using hj) z
    exact ⟨σ1, h1, .nx σ2, h2, σ2, a, b, .inl rfl, c⟩)
  rw [Nat.zero_add] at b
  exact ⟨σ', h', a, by simpa using b⟩
theorem eq_nil {h : MH} (c : Clo h) {n : Nat} {ks : List Nat} (e : h[n]? = some (.lst (ks.map eI))) : gcT h.length ((dEq (.lst n) (.lst h.length) (h ++ [.lst []])).bind toB) = .ok (decide (ks = [])) h := by
  have e2 : (h ++ [HE.lst []])[n]? = some (.lst (ks.map eI)) := by rw [List.getElem?_append_left (List.getElem?_eq_some_iff.mp e).1]; exact e
  rw [v_eqL (es := []) e2 (by simp) (flatL_eI _) (fun _ m => by cases m), bind_ok, ev_toB, gct_drop c]
  congr 1
  rw [decide_eq_decide, List.map_eq_nil_iff]
theorem ne_nil {h : MH} (c : Clo h) {n : Nat} {ks : List Nat} (e : h[n]? = some (.lst (ks.map eI))) : gcT h.length ((dNe (.lst n) (.lst h.length) (h ++ [.lst []])).bind toB) = .ok (!decide (ks = [])) h := by
  have e2 : (h ++ [HE.lst []])[n]? = some (.lst (ks.map eI)) := by rw [List.getElem?_append_left (List.getElem?_eq_some_iff.mp e).1]; exact e
  rw [v_neL (es := []) e2 (by simp) (flatL_eI _) (fun _ m => by cases m), bind_ok, ev_toB, gct_drop c]
  congr 2
  rw [decide_eq_decide, List.map_eq_nil_iff]
theorem set_pu {P : List D} {k : Nat} {v : D} (hP : D.puL P = true) (hv : v.pu = true) : D.puL (P.set k v) = true := (puL_iff _).mpr fun d m => by
  rcases List.mem_or_eq_of_mem_set m with m | m
  · exact (puL_iff _).mp hP d m
  · rw [m]; exact hv
end
end Lw

/-! k47_E9: the law's trees: one node, all nodes. -/
namespace Lw
open PySem PySem.Spec PyProof.Rows L2 Sm Sq
section
variable {b g : MH}
theorem kids_shape {S : List Int × Int} {ps : List (Option Nat)} {P : List D} {J : MH} {node : Nat} {σ : Sg} (l : ps.length ≤ 40) (h3 : σ[3]? = some (some (.lst (b.length + (g.length + 2))))) (h6 : σ[6]? = some (some (.int node))) (h9 : 9 < σ.length) :
    fLc [9] (iRg1 (fCB cLen (fCons (fVar 3) fNil))) (gNm 9) (fTst (fOp dEq (fOp dIx (fVar 3) (fVar 9)) (fVar 6))) (fVar 9) σ (HT' b g S ps P J) = .ok (.lst (HT' b g S ps P J).length) (HT' b g S ps P J ++ [.lst ((kd ps node).map eI)]) := by
  have e1 : cLen [.lst (b.length + (g.length + 2))] (HT' b g S ps P J) = .ok (.int ps.length) (HT' b g S ps P J) := by rw [v_len (dI_lst ht_0)]; simp
  refine fLc_rgf (n := ps.length) (by simp only [ev_c, ev_var, ev_nil, ev_cons, ev_tup, ev_lst, ev_op, ev_tst, ev_toB, ev_tru, ev_andT, ev_orT, ev_notT, ev_andV, ev_orV, ev_notV, ev_neg, ev_ifE, ev_no, ev_so, ev_sl, ev_cb, ev_isi, ev_mt, ev_lr1, ev_gc, ev_gct, ev_call, ev_nx, ev_seq, ev_exp, ev_ret, ev_if, ev_set, ev_asg, ev_par, ev_gnm, ev_gsb, ev_gsnil, ev_gscons, ev_gtp, ev_yes, ev_retR_rt, bind_ok, List.getElem?_cons_zero, List.getElem?_cons_succ, List.set_cons_zero, List.set_cons_succ, List.length_cons, List.length_nil, Nat.reduceAdd, Nat.reduceLeDiff, if_true, gc_same, gct_same, v_truB, Sm.v_add, Sm.v_sub, isL_lst, decide_true, decide_false, Bool.not_true, Bool.not_false, Bool.false_eq_true, if_false, h3, e1]) (by omega) (fun j => ps[j]? == some (some node)) eI ?_
  intro i hi
  have ep : ps[i]? = some ps[i] := List.getElem?_eq_getElem hi
  have e2 : dIx (.lst (b.length + (g.length + 2))) (.int i) (HT' b g S ps P J) = .ok (eP ps[i]) (HT' b g S ps P J) := v_ixM (sqn_l ht_0) ep
  have g3 : ((wipeD σ [9]).set 9 (some (.int i)))[3]? = some (some (.lst (b.length + (g.length + 2)))) := by
    rw [List.getElem?_set_ne (by decide)]; simp only [wipeD]; rw [List.getElem?_set_ne (by decide)]; exact h3
  have g6 : ((wipeD σ [9]).set 9 (some (.int i)))[6]? = some (some (.int node)) := by
    rw [List.getElem?_set_ne (by decide)]; simp only [wipeD]; rw [List.getElem?_set_ne (by decide)]; exact h6
  have g9 : ((wipeD σ [9]).set 9 (some (.int i)))[9]? = some (some (.int i)) := by
    rw [List.getElem?_set_self]; simp only [wipeD]; rw [List.length_set]; exact h9
  refine ⟨(wipeD σ [9]).set 9 (some (.int i)), rfl, ?_, fun _ => by simp only [ev_var, g9]; rfl⟩
  simp only [ev_tst, ev_op, ev_var, g3, g6, g9, bind_ok, e2, v_eq (flat_eP _) (flat_int _), ev_toB, ep]
  congr 1
  rw [Bool.eq_iff_iff]
  cases ps[i] <;> simp [eP]
  omega
/-- one node's prices -/
theorem tree_node {S : List Int × Int} {ps : List (Option Nat)} {P : List D} {J : MH} {node many c : Nat} {z7 z8 z9 z10 : Option D} {v1 v2 : D} (hS : Gd S) (cb : CloS b g) (W : WF ps) (hP : D.puL P = true) (hJ : Pur J) (lP : P.length = ps.length) (hn : node < ps.length) (m2 : many ≤ 2) (c4 : 3 * (3 + c + 1) + 1 ≤ 4000) (c1 : 1 ≤ c)
    (hk : ∀ k ∈ kd ps node, ∃ qs : List Rat, P[k]? = some (eR qs) ∧ qs.length = many ∧ SzL c qs) :
    ∃ S' J' qs z7' z8', (fSeq (fSet 7 (fGc (fLc [9] (iRg1 (fCB cLen (fCons (fVar 3) fNil))) (gNm 9) (fTst (fOp dEq (fOp dIx (fVar 3) (fVar 9)) (fVar 6))) (fVar 9)))) (fIf (fGcT (fTst (fOp dEq (fVar 7) (fLst fNil)))) (fAsg (fGc (fCB cTup (fCons (fGc (fLc [10] (iRg1 (fVar 4)) (gNm 10) fYes (fGc (fCall 2 m_Lpart (fCons (fGc (fOp dAdd (fC (.int 1)) (fGc (fCall 2 m_Ltake (fCons (fVar 0) (fCons (fC (.int 6)) fNil)))))) (fCons (fGc (fOp dAdd (fC (.int 1)) (fGc (fCall 2 m_Ltake (fCons (fVar 0) (fCons (fC (.int 2)) fNil)))))) fNil)))))) fNil))) (gSb (fVar 5) (fVar 6))) (fSeq (fSet 8 (fGc (fLc [9] (iSeq (fVar 7)) (gNm 9) fYes (fGc (fCall 2 m_Lpart (fCons (fGc (fOp dAdd (fC (.int 1)) (fGc (fCall 2 m_Ltake (fCons (fVar 0) (fCons (fC (.int 3)) fNil)))))) (fCons (fGc (fOp dAdd (fC (.int 1)) (fGc (fCall 2 m_Ltake (fCons (fVar 0) (fCons (fC (.int 3)) fNil)))))) fNil))))))) (fAsg (fGc (fCB cTup (fCons (fGc (fLc [10] (iRg1 (fVar 4)) (gNm 10) fYes (fGc (fCall 2 m_Ldot (fCons (fVar 8) (fCons (fGc (fLc [9] (iSeq (fVar 7)) (gNm 9) fYes (fOp dIx (fOp dIx (fVar 5) (fVar 9)) (fVar 10)))) fNil)))))) fNil))) (gSb (fVar 5) (fVar 6))))))
      [some (.lst (b.length + 1)), some v1, some v2, some (.lst (b.length + (g.length + 2))), some (.int many), some (.lst (b.length + (g.length + 2) + 1)), some (.int node), z7, z8, z9, z10] (HT' b g S ps P J)
      = .ok (.nx [some (.lst (b.length + 1)), some v1, some v2, some (.lst (b.length + (g.length + 2))), some (.int many), some (.lst (b.length + (g.length + 2) + 1)), some (.int node), z7', z8', z9, z10]) (HT' b g S' ps (P.set node (eR qs)) J') ∧ Gd S' ∧ Pur J' ∧ qs.length = many ∧ (kd ps node = [] → SzL 3 qs) ∧ SzL (3 * (3 + c + 1) + 1) qs := by
  have C0 : CloS b (g ++ (.lst (ps.map eP) :: .lst P :: J)) := ht_clo cb hP hJ
  have H0 : Clo (HT' b g S ps P J) := C0 S
  have e1 := kids_shape (b := b) (g := g) (S := S) (ps := ps) (P := P) (J := J) (node := node) (σ := [some (.lst (b.length + 1)), some v1, some v2, some (.lst (b.length + (g.length + 2))), some (.int many), some (.lst (b.length + (g.length + 2) + 1)), some (.int node), z7, z8, z9, z10]) W.len rfl rfl (by simp)
  have hJ1 : Pur (J ++ [.lst ((kd ps node).map eI)]) := hJ.push (eIs_pu _)
  have C1 : CloS b (g ++ (.lst (ps.map eP) :: .lst P :: (J ++ [.lst ((kd ps node).map eI)]))) := ht_clo cb hP hJ1
  have H1 : ∀ S, Clo (HT' b g S ps P (J ++ [.lst ((kd ps node).map eI)])) := fun S => C1 S
  rw [seq_nx (σ1 := [some (.lst (b.length + 1)), some v1, some v2, some (.lst (b.length + (g.length + 2))), some (.int many), some (.lst (b.length + (g.length + 2) + 1)), some (.int node), some (.lst (b.length + (g.length + 2) + 2 + J.length)), z8, z9, z10]) (h1 := HT' b g S ps P (J ++ [.lst ((kd ps node).map eI)]))]
  rotate_left
  · simp only [ev_c, ev_var, ev_nil, ev_cons, ev_tup, ev_lst, ev_op, ev_tst, ev_toB, ev_tru, ev_andT, ev_orT, ev_notT, ev_andV, ev_orV, ev_notV, ev_neg, ev_ifE, ev_no, ev_so, ev_sl, ev_cb, ev_isi, ev_mt, ev_lr1, ev_gc, ev_gct, ev_call, ev_nx, ev_seq, ev_exp, ev_ret, ev_if, ev_set, ev_asg, ev_par, ev_gnm, ev_gsb, ev_gsnil, ev_gscons, ev_gtp, ev_yes, ev_retR_rt, bind_ok, List.getElem?_cons_zero, List.getElem?_cons_succ, List.set_cons_zero, List.set_cons_succ, List.length_cons, List.length_nil, Nat.reduceAdd, Nat.reduceLeDiff, if_true, gc_same, gct_same, v_truB, Sm.v_add, Sm.v_sub, isL_lst, decide_true, decide_false, Bool.not_true, Bool.not_false, Bool.false_eq_true, if_false, e1, gc_np H0 (eIs_pu _)]
    rw [ht_len, ht_app]
  have hK : ∀ S, (HT' b g S ps P (J ++ [.lst ((kd ps node).map eI)]))[b.length + (g.length + 2) + 2 + J.length]? = some (.lst ((kd ps node).map eI)) := fun S => by rw [ht_J]; simp
  have ea : allocD [] (HT' b g S ps P (J ++ [.lst ((kd ps node).map eI)])) = .ok (.lst (HT' b g S ps P (J ++ [.lst ((kd ps node).map eI)])).length) (HT' b g S ps P (J ++ [.lst ((kd ps node).map eI)]) ++ [.lst []]) := v_alloc (by simp)
  have ec : (fGcT (fTst (fOp dEq (fVar 7) (fLst fNil)))) [some (.lst (b.length + 1)), some v1, some v2, some (.lst (b.length + (g.length + 2))), some (.int many), some (.lst (b.length + (g.length + 2) + 1)), some (.int node), some (.lst (b.length + (g.length + 2) + 2 + J.length)), z8, z9, z10] (HT' b g S ps P (J ++ [.lst ((kd ps node).map eI)])) = .ok (decide (kd ps node = [])) (HT' b g S ps P (J ++ [.lst ((kd ps node).map eI)])) := by
    have := eq_nil (H1 S) (hK S)
    simp only [ev_c, ev_var, ev_nil, ev_cons, ev_tup, ev_lst, ev_op, ev_tst, ev_toB, ev_tru, ev_andT, ev_orT, ev_notT, ev_andV, ev_orV, ev_notV, ev_neg, ev_ifE, ev_no, ev_so, ev_sl, ev_cb, ev_isi, ev_mt, ev_lr1, ev_gc, ev_gct, ev_call, ev_nx, ev_seq, ev_exp, ev_ret, ev_if, ev_set, ev_asg, ev_par, ev_gnm, ev_gsb, ev_gsnil, ev_gscons, ev_gtp, ev_yes, ev_retR_rt, bind_ok, List.getElem?_cons_zero, List.getElem?_cons_succ, List.set_cons_zero, List.set_cons_succ, List.length_cons, List.length_nil, Nat.reduceAdd, Nat.reduceLeDiff, if_true, gc_same, gct_same, v_truB, Sm.v_add, Sm.v_sub, isL_lst, decide_true, decide_false, Bool.not_true, Bool.not_false, Bool.false_eq_true, if_false, ea] at this ⊢
    exact this
  rw [ev_if, ec, bind_ok]
  by_cases kn : kd ps node = []
  · rw [kn, decide_eq_true rfl, if_pos rfl]
    rw [kn] at H1 C1 hJ1
    obtain ⟨vd, S', x2, g2, lv, hv⟩ := fLc_drw_rg (b := b) (g := g ++ (.lst (ps.map eP) :: .lst P :: (J ++ [.lst ([].map eI)]))) (own := [10]) (fa := fVar 4) (tgt := gNm 10) (elt := fGc (fCall 2 m_Lpart (fCons (fGc (fOp dAdd (fC (.int 1)) (fGc (fCall 2 m_Ltake (fCons (fVar 0) (fCons (fC (.int 6)) fNil)))))) (fCons (fGc (fOp dAdd (fC (.int 1)) (fGc (fCall 2 m_Ltake (fCons (fVar 0) (fCons (fC (.int 2)) fNil)))))) fNil)))) (σ := [some (.lst (b.length + 1)), some v1, some v2, some (.lst (b.length + (g.length + 2))), some (.int many), some (.lst (b.length + (g.length + 2) + 1)), some (.int node), some (.lst (b.length + (g.length + 2) + 2 + J.length)), z8, z9, z10]) (S := S) (n := many) hS (by simp) (by omega) (fun _ d => ∃ q : Rat, d = eQ q ∧ Sz 3 q) (by
      intro i S _ hS
      exact ⟨_, rfl, draw_part hS rfl (by decide) (by decide) (by decide) (by decide)⟩)
    obtain ⟨qs, rfl, zq⟩ := rows_of hv
    rw [List.length_map] at lv
    refine ⟨S', J ++ [.lst ([].map eI)], qs, some (.lst (b.length + (g.length + 2) + 2 + J.length)), z8, ?_, g2, hJ1, lv, fun _ => zq, zq.mono (by omega)⟩
    have x2' : fLc [10] (iRg1 (fVar 4)) (gNm 10) fYes (fGc (fCall 2 m_Lpart (fCons (fGc (fOp dAdd (fC (.int 1)) (fGc (fCall 2 m_Ltake (fCons (fVar 0) (fCons (fC (.int 6)) fNil)))))) (fCons (fGc (fOp dAdd (fC (.int 1)) (fGc (fCall 2 m_Ltake (fCons (fVar 0) (fCons (fC (.int 2)) fNil)))))) fNil)))) [some (.lst (b.length + 1)), some v1, some v2, some (.lst (b.length + (g.length + 2))), some (.int many), some (.lst (b.length + (g.length + 2) + 1)), some (.int node), some (.lst (b.length + (g.length + 2) + 2 + J.length)), z8, z9, z10] (HT' b g S ps P (J ++ [.lst ([].map eI)])) = .ok (.lst (HT' b g S' ps P (J ++ [.lst ([].map eI)])).length) (HT' b g S' ps P (J ++ [.lst ([].map eI)]) ++ [.lst (qs.map eQ)]) := x2
    have hlen : (HT' b g S ps P (J ++ [.lst ([].map eI)])).length = (HT' b g S' ps P (J ++ [.lst ([].map eI)])).length := by rw [ht_len, ht_len]
    have es := ht_setD (b := b) (g := g) (S := S') (ps := ps) (P := P) (J := J ++ [.lst ([].map eI)]) (k := node) (v := eR qs) (by omega)
    have et := tup_gc (H1 S') (eQs_pu qs)
    have et' : gcR (HT' b g S ps P (J ++ [.lst ([].map eI)])).length (cTup [.lst (HT' b g S' ps P (J ++ [.lst ([].map eI)])).length] (HT' b g S' ps P (J ++ [.lst ([].map eI)]) ++ [.lst (qs.map eQ)])) = .ok (eR qs) (HT' b g S' ps P (J ++ [.lst ([].map eI)])) := by rw [hlen]; exact et
    have en : gcR (HT' b g S ps P (J ++ [.lst ([].map eI)])).length (.ok (.lst (HT' b g S' ps P (J ++ [.lst ([].map eI)])).length) (HT' b g S' ps P (J ++ [.lst ([].map eI)]) ++ [.lst (qs.map eQ)])) = .ok (.lst (HT' b g S' ps P (J ++ [.lst ([].map eI)])).length) (HT' b g S' ps P (J ++ [.lst ([].map eI)]) ++ [.lst (qs.map eQ)]) := by rw [hlen]; exact gc_np (H1 S') (eQs_pu qs)
    simp only [ev_c, ev_var, ev_nil, ev_cons, ev_tup, ev_lst, ev_op, ev_tst, ev_toB, ev_tru, ev_andT, ev_orT, ev_notT, ev_andV, ev_orV, ev_notV, ev_neg, ev_ifE, ev_no, ev_so, ev_sl, ev_cb, ev_isi, ev_mt, ev_lr1, ev_gc, ev_gct, ev_call, ev_nx, ev_seq, ev_exp, ev_ret, ev_if, ev_set, ev_asg, ev_par, ev_gnm, ev_gsb, ev_gsnil, ev_gscons, ev_gtp, ev_yes, ev_retR_rt, bind_ok, List.getElem?_cons_zero, List.getElem?_cons_succ, List.set_cons_zero, List.set_cons_succ, List.length_cons, List.length_nil, Nat.reduceAdd, Nat.reduceLeDiff, if_true, gc_same, gct_same, v_truB, Sm.v_add, Sm.v_sub, isL_lst, decide_true, decide_false, Bool.not_true, Bool.not_false, Bool.false_eq_true, if_false, x2', en, et', es]
  · rw [decide_eq_false kn, if_neg (by simp)]
    -- weights
    obtain ⟨vd, S', x2, g2, lv, hv⟩ := fLc_drw_seq (b := b) (g := g ++ (HE.lst (ps.map eP) :: HE.lst P :: (J ++ [HE.lst ((kd ps node).map eI)]))) (own := [9]) (fe := fVar 7) (tgt := gNm 9) (elt := fGc (fCall 2 m_Lpart (fCons (fGc (fOp dAdd (fC (.int 1)) (fGc (fCall 2 m_Ltake (fCons (fVar 0) (fCons (fC (.int 3)) fNil)))))) (fCons (fGc (fOp dAdd (fC (.int 1)) (fGc (fCall 2 m_Ltake (fCons (fVar 0) (fCons (fC (.int 3)) fNil)))))) fNil)))) (σ := [some (.lst (b.length + 1)), some v1, some v2, some (.lst (b.length + (g.length + 2))), some (.int many), some (.lst (b.length + (g.length + 2) + 1)), some (.int node), some (.lst (b.length + (g.length + 2) + 2 + J.length)), z8, z9, z10]) (S := S) (d := .lst (b.length + (g.length + 2) + 2 + J.length)) (ds := (kd ps node).map eI) hS (fun S => sqn_l (show (HT' b g S ps P (J ++ [.lst ((kd ps node).map eI)]))[b.length + (g.length + 2) + 2 + J.length]? = some (.lst ((kd ps node).map eI)) from hK S)) (by simp) (by have := W.few node; simp; omega) (fun _ d => ∃ q : Rat, d = eQ q ∧ Sz 3 q) (by
      intro i d S _ hS
      exact ⟨_, rfl, draw_part hS rfl (by decide) (by decide) (by decide) (by decide)⟩)
    obtain ⟨ws, rfl, zw⟩ := rows_of hv
    rw [List.length_map, List.length_map] at lv
    have x2' : fLc [9] (iSeq (fVar 7)) (gNm 9) fYes (fGc (fCall 2 m_Lpart (fCons (fGc (fOp dAdd (fC (.int 1)) (fGc (fCall 2 m_Ltake (fCons (fVar 0) (fCons (fC (.int 3)) fNil)))))) (fCons (fGc (fOp dAdd (fC (.int 1)) (fGc (fCall 2 m_Ltake (fCons (fVar 0) (fCons (fC (.int 3)) fNil)))))) fNil)))) [some (.lst (b.length + 1)), some v1, some v2, some (.lst (b.length + (g.length + 2))), some (.int many), some (.lst (b.length + (g.length + 2) + 1)), some (.int node), some (.lst (b.length + (g.length + 2) + 2 + J.length)), z8, z9, z10] (HT' b g S ps P (J ++ [.lst ((kd ps node).map eI)])) = .ok (.lst (HT' b g S' ps P (J ++ [.lst ((kd ps node).map eI)])).length) (HT' b g S' ps P (J ++ [.lst ((kd ps node).map eI)]) ++ [.lst (ws.map eQ)]) := x2
    have hlen : (HT' b g S ps P (J ++ [.lst ((kd ps node).map eI)])).length = (HT' b g S' ps P (J ++ [.lst ((kd ps node).map eI)])).length := by rw [ht_len, ht_len]
    have en : gcR (HT' b g S ps P (J ++ [.lst ((kd ps node).map eI)])).length (.ok (.lst (HT' b g S' ps P (J ++ [.lst ((kd ps node).map eI)])).length) (HT' b g S' ps P (J ++ [.lst ((kd ps node).map eI)]) ++ [.lst (ws.map eQ)])) = .ok (.lst (HT' b g S' ps P (J ++ [.lst ((kd ps node).map eI)])).length) (HT' b g S' ps P (J ++ [.lst ((kd ps node).map eI)]) ++ [.lst (ws.map eQ)]) := by rw [hlen]; exact gc_np (H1 S') (eQs_pu ws)
    have hJ2 : Pur (J ++ [.lst ((kd ps node).map eI)] ++ [.lst (ws.map eQ)]) := hJ1.push (eQs_pu _)
    have C2 : CloS b (g ++ (.lst (ps.map eP) :: .lst P :: (J ++ [.lst ((kd ps node).map eI)] ++ [.lst (ws.map eQ)]))) := ht_clo cb hP hJ2
    have H2 : Clo (HT' b g S' ps P (J ++ [.lst ((kd ps node).map eI)] ++ [.lst (ws.map eQ)])) := C2 S'
    rw [seq_nx (σ1 := [some (.lst (b.length + 1)), some v1, some v2, some (.lst (b.length + (g.length + 2))), some (.int many), some (.lst (b.length + (g.length + 2) + 1)), some (.int node), some (.lst (b.length + (g.length + 2) + 2 + J.length)), some (.lst (b.length + (g.length + 2) + 2 + (J.length + 1))), z9, z10]) (h1 := HT' b g S' ps P (J ++ [.lst ((kd ps node).map eI)] ++ [.lst (ws.map eQ)]))]
    rotate_left
    · simp only [ev_c, ev_var, ev_nil, ev_cons, ev_tup, ev_lst, ev_op, ev_tst, ev_toB, ev_tru, ev_andT, ev_orT, ev_notT, ev_andV, ev_orV, ev_notV, ev_neg, ev_ifE, ev_no, ev_so, ev_sl, ev_cb, ev_isi, ev_mt, ev_lr1, ev_gc, ev_gct, ev_call, ev_nx, ev_seq, ev_exp, ev_ret, ev_if, ev_set, ev_asg, ev_par, ev_gnm, ev_gsb, ev_gsnil, ev_gscons, ev_gtp, ev_yes, ev_retR_rt, bind_ok, List.getElem?_cons_zero, List.getElem?_cons_succ, List.set_cons_zero, List.set_cons_succ, List.length_cons, List.length_nil, Nat.reduceAdd, Nat.reduceLeDiff, if_true, gc_same, gct_same, v_truB, Sm.v_add, Sm.v_sub, isL_lst, decide_true, decide_false, Bool.not_true, Bool.not_false, Bool.false_eq_true, if_false, x2', en]
      rw [ht_len, ht_app]
      simp
    have hK2 : (HT' b g S' ps P (J ++ [.lst ((kd ps node).map eI)] ++ [.lst (ws.map eQ)]))[b.length + (g.length + 2) + 2 + J.length]? = some (.lst ((kd ps node).map eI)) := by rw [ht_J]; simp
    have hW2 : (HT' b g S' ps P (J ++ [.lst ((kd ps node).map eI)] ++ [.lst (ws.map eQ)]))[b.length + (g.length + 2) + 2 + (J.length + 1)]? = some (.lst (ws.map eQ)) := by
      rw [ht_J, List.getElem?_append_right (by simp)]; simp
    have hP2 : (HT' b g S' ps P (J ++ [.lst ((kd ps node).map eI)] ++ [.lst (ws.map eQ)]))[b.length + (g.length + 2) + 1]? = some (.lst P) := ht_1
    generalize hH : HT' b g S' ps P (J ++ [.lst ((kd ps node).map eI)] ++ [.lst (ws.map eQ)]) = H at H2 hK2 hW2 hP2
    -- prices of the nodes ahead
    let pr : Nat → Nat → Rat := fun k j => match P[k]? with
      | some (.tup ds) => match ds[j]? with
        | some (.tup [.int u, .int v]) => Rat.divInt u v
        | _ => 0
      | _ => 0
    have hpr : ∀ k ∈ kd ps node, ∃ qs : List Rat, P[k]? = some (eR qs) ∧ qs.length = many ∧ SzL c qs ∧ ∀ j, j < many → qs[j]? = some (pr k j) := by
      intro k m
      obtain ⟨qs, e, l, z⟩ := hk k m
      refine ⟨qs, e, l, z, fun j hj => ?_⟩
      have hj' : j < qs.length := by omega
      have : pr k j = qs[j] := by
        show (match P[k]? with | some (.tup ds) => (match ds[j]? with | some (.tup [.int u, .int v]) => Rat.divInt u v | _ => 0) | _ => (0 : Rat)) = _
        rw [e]
        show (match (qs.map eQ)[j]? with | some (.tup [.int u, .int v]) => Rat.divInt u v | _ => (0 : Rat)) = _
        rw [List.getElem?_map, List.getElem?_eq_getElem hj']
        exact Rat.num_divInt_den _
      rw [this, List.getElem?_eq_getElem hj']
    have inner : ∀ j, j < many → m_Ldot [.lst (b.length + (g.length + 2) + 2 + (J.length + 1)), .lst H.length] (H ++ [.lst ((kd ps node).map fun k => eQ (pr k j))]) = .ok (eQ (tot (pro ws ((kd ps node).map fun k => pr k j)))) (H ++ [.lst ((kd ps node).map fun k => eQ (pr k j))]) ∧ SzL c ((kd ps node).map fun k => pr k j) := by
      intro j hj
      have zz : SzL c ((kd ps node).map fun k => pr k j) := by
        intro q m
        obtain ⟨k, mk, rfl⟩ := List.mem_map.mp m
        obtain ⟨qs, _, _, z, hq⟩ := hpr k mk
        exact z _ (List.mem_of_getElem? (hq j hj))
      have em : (kd ps node).map (fun k => eQ (pr k j)) = ((kd ps node).map fun k => pr k j).map eQ := by simp
      refine ⟨?_, zz⟩
      rw [em]
      have hf := W.few node
      have h3 := Nat.mul_le_mul_right (3 + c + 1) hf
      exact e_Ldot (a := 3) (b := c) (clo1 H2 (eQs_pu _)) (sqn_app (sqn_l hW2)) sqn_new zw zz (by simp; omega) (by rw [lv]; omega) (by decide) (by omega)
    have x3 := fLc_rg (own := [10]) (fa := fVar 4) (tgt := gNm 10) (elt := fGc (fCall 2 m_Ldot (fCons (fVar 8) (fCons (fGc (fLc [9] (iSeq (fVar 7)) (gNm 9) fYes (fOp dIx (fOp dIx (fVar 5) (fVar 9)) (fVar 10)))) fNil)))) (σ := [some (.lst (b.length + 1)), some v1, some v2, some (.lst (b.length + (g.length + 2))), some (.int many), some (.lst (b.length + (g.length + 2) + 1)), some (.int node), some (.lst (b.length + (g.length + 2) + 2 + J.length)), some (.lst (b.length + (g.length + 2) + 2 + (J.length + 1))), z9, z10]) (h := H) (n := many) (by simp) (by omega) (fun j => eQ (tot (pro ws ((kd ps node).map fun k => pr k j)))) (by
      intro j hj
      refine ⟨_, rfl, ?_⟩
      have y := fLc_mpy (own := [9]) (fe := fVar 7) (tgt := gNm 9) (elt := fOp dIx (fOp dIx (fVar 5) (fVar 9)) (fVar 10)) (σ := [some (.lst (b.length + 1)), some v1, some v2, some (.lst (b.length + (g.length + 2))), some (.int many), some (.lst (b.length + (g.length + 2) + 1)), some (.int node), some (.lst (b.length + (g.length + 2) + 2 + J.length)), some (.lst (b.length + (g.length + 2) + 2 + (J.length + 1))), z9, some (.int j)]) (h := H) (d := .lst (b.length + (g.length + 2) + 2 + J.length)) eI (kd ps node) (sqn_l hK2) (by simp) (by have := W.few node; omega) (fun k => eQ (pr k j)) (by
        intro k mk
        obtain ⟨qs, ek, lq, _, hq⟩ := hpr k mk
        refine ⟨_, rfl, ?_⟩
        have i1 : dIx (.lst (b.length + (g.length + 2) + 1)) (.int k) H = .ok (eR qs) H := v_ix (dI_lst hP2) (atI_nat' ek)
        have i2 : dIx (eR qs) (.int j) H = .ok (eQ (pr k j)) H := v_ixM (e := eQ) (xs := qs) sqn_t (hq j hj)
        simp only [wipeD, ev_c, ev_var, ev_nil, ev_cons, ev_tup, ev_lst, ev_op, ev_tst, ev_toB, ev_tru, ev_andT, ev_orT, ev_notT, ev_andV, ev_orV, ev_notV, ev_neg, ev_ifE, ev_no, ev_so, ev_sl, ev_cb, ev_isi, ev_mt, ev_lr1, ev_gc, ev_gct, ev_call, ev_nx, ev_seq, ev_exp, ev_ret, ev_if, ev_set, ev_asg, ev_par, ev_gnm, ev_gsb, ev_gsnil, ev_gscons, ev_gtp, ev_yes, ev_retR_rt, bind_ok, List.getElem?_cons_zero, List.getElem?_cons_succ, List.set_cons_zero, List.set_cons_succ, List.length_cons, List.length_nil, Nat.reduceAdd, Nat.reduceLeDiff, if_true, gc_same, gct_same, v_truB, Sm.v_add, Sm.v_sub, isL_lst, decide_true, decide_false, Bool.not_true, Bool.not_false, Bool.false_eq_true, if_false, eI, i1, i2])
      have hp : D.puL ((kd ps node).map fun k => eQ (pr k j)) = true := by
        have em : (kd ps node).map (fun k => eQ (pr k j)) = ((kd ps node).map fun k => pr k j).map eQ := by simp
        rw [em]; exact eQs_pu _
      simp only [wipeD, ev_c, ev_var, ev_nil, ev_cons, ev_tup, ev_lst, ev_op, ev_tst, ev_toB, ev_tru, ev_andT, ev_orT, ev_notT, ev_andV, ev_orV, ev_notV, ev_neg, ev_ifE, ev_no, ev_so, ev_sl, ev_cb, ev_isi, ev_mt, ev_lr1, ev_gc, ev_gct, ev_call, ev_nx, ev_seq, ev_exp, ev_ret, ev_if, ev_set, ev_asg, ev_par, ev_gnm, ev_gsb, ev_gsnil, ev_gscons, ev_gtp, ev_yes, ev_retR_rt, bind_ok, List.getElem?_cons_zero, List.getElem?_cons_succ, List.set_cons_zero, List.set_cons_succ, List.length_cons, List.length_nil, Nat.reduceAdd, Nat.reduceLeDiff, if_true, gc_same, gct_same, v_truB, Sm.v_add, Sm.v_sub, isL_lst, decide_true, decide_false, Bool.not_true, Bool.not_false, Bool.false_eq_true, if_false, y, gc_np H2 hp, (inner j hj).1, gc_dp H2 (eQ_pu _)])
    have em : (List.range many).map (fun j => eQ (tot (pro ws ((kd ps node).map fun k => pr k j)))) = ((List.range many).map fun j => tot (pro ws ((kd ps node).map fun k => pr k j))).map eQ := by simp
    rw [em] at x3
    refine ⟨S', J ++ [.lst ((kd ps node).map eI)] ++ [.lst (ws.map eQ)], (List.range many).map fun j => tot (pro ws ((kd ps node).map fun k => pr k j)), some (.lst (b.length + (g.length + 2) + 2 + J.length)), some (.lst (b.length + (g.length + 2) + 2 + (J.length + 1))), ?_, g2, hJ2, by simp, fun z => absurd z kn, ?_⟩
    · have es := ht_setD (b := b) (g := g) (S := S') (ps := ps) (P := P) (J := J ++ [.lst ((kd ps node).map eI)] ++ [.lst (ws.map eQ)]) (k := node) (v := eR ((List.range many).map fun j => tot (pro ws ((kd ps node).map fun k => pr k j)))) (by omega)
      rw [hH] at es
      have et := tup_gc H2 (eQs_pu ((List.range many).map fun j => tot (pro ws ((kd ps node).map fun k => pr k j))))
      have et' : gcR H.length (cTup [.lst H.length] (H ++ [.lst (((List.range many).map fun j => tot (pro ws ((kd ps node).map fun k => pr k j))).map eQ)])) = .ok (eR ((List.range many).map fun j => tot (pro ws ((kd ps node).map fun k => pr k j)))) H := et
      simp only [ev_c, ev_var, ev_nil, ev_cons, ev_tup, ev_lst, ev_op, ev_tst, ev_toB, ev_tru, ev_andT, ev_orT, ev_notT, ev_andV, ev_orV, ev_notV, ev_neg, ev_ifE, ev_no, ev_so, ev_sl, ev_cb, ev_isi, ev_mt, ev_lr1, ev_gc, ev_gct, ev_call, ev_nx, ev_seq, ev_exp, ev_ret, ev_if, ev_set, ev_asg, ev_par, ev_gnm, ev_gsb, ev_gsnil, ev_gscons, ev_gtp, ev_yes, ev_retR_rt, bind_ok, List.getElem?_cons_zero, List.getElem?_cons_succ, List.set_cons_zero, List.set_cons_succ, List.length_cons, List.length_nil, Nat.reduceAdd, Nat.reduceLeDiff, if_true, gc_same, gct_same, v_truB, Sm.v_add, Sm.v_sub, isL_lst, decide_true, decide_false, Bool.not_true, Bool.not_false, Bool.false_eq_true, if_false, x3, gc_np H2 (eQs_pu _), et', es]
    · intro q m
      obtain ⟨j, mj, rfl⟩ := List.mem_map.mp m
      have hf := W.few node
      have h3 := Nat.mul_le_mul_right (3 + c + 1) hf
      refine (sz_tot (sz_pro zw (inner j (List.mem_range.mp mj)).2)).mono ?_
      rw [len_pro (by simp; omega), lv]
      omega
end
end Lw

/-! k47_EA: the law's trees whole. -/
namespace Lw
open PySem PySem.Spec PyProof.Rows L2 Sm Sq
section
variable {b g : MH}
theorem cut_pu {ds : List D} {lo hi : Option Int} (p : D.puL ds = true) : D.puL (Sm.cutD ds lo hi) = true := (puL_iff _).mpr fun d m => (puL_iff _).mp p d (List.mem_of_mem_drop (List.mem_of_mem_take m))
theorem WF.back {ps : List (Option Nat)} (W : WF ps) {k p : Nat} (e : ps[k]? = some (some p)) : p < k := by
  have kl := (List.getElem?_eq_some_iff.mp e).1
  have k0 : 0 < k := by
    rcases Nat.eq_zero_or_pos k with z | z
    · subst z; rw [W.root] at e; cases e
    · exact z
  obtain ⟨q, a, b⟩ := W.par k k0 kl
  rw [a] at e; cases e; exact b
theorem WF.pos {ps : List (Option Nat)} (W : WF ps) : 0 < ps.length := (List.getElem?_eq_some_iff.mp W.root).1
theorem e_Ltree {S : List Int × Int} (hS : Gd S) (cb : CloS b g) {mm : Nat} (m3 : mm ≤ 3) (m1' : 1 ≤ mm) : Drw b g (fun d => ∃ ps, WF ps ∧ TreeD d ps ∧ d.pu = true) (m_Ltree [.lst (b.length + 1), .int mm, .int 3] (SH b S g)) := by
  obtain ⟨S1, ps, x1, g1, W⟩ := e_Lshape (b := b) (g := g) hS cb m3 m1'
  have C1 : CloS b (g ++ [.lst (ps.map eP)]) := cb.pushP eP_puL
  obtain ⟨_, S2, x2, g2, i, rfl, i0, i1⟩ := e_Ltake (b := b) (g := g ++ [.lst (ps.map eP)]) g1 (m := 2) (by decide) (by decide)
  obtain ⟨many, hm, m1, m2⟩ : ∃ n : Nat, 1 + i = (n : Int) ∧ 1 ≤ n ∧ n ≤ 2 := ⟨(1 + i).toNat, by omega, by omega, by omega⟩
  obtain ⟨dp, hdp, hd3⟩ := W.deep
  have wl := W.len
  suffices H : ∃ S' j d, b_Ltree (startD 11 [.lst (b.length + 1), .int mm, .int 3]) (SH b S g) = .ok (.rt d) (SH b S' (g ++ j)) ∧ Gd S' ∧ TreeD d ps ∧ d.pu = true by
    obtain ⟨S', j, d, e, g', T, p⟩ := H
    refine ⟨d, S', ?_, g', ps, W, T, p⟩
    unfold m_Ltree mOf
    rw [e, ev_retR_rt]
    exact gc_SH cb SH_length p
  have hst : startD 11 [D.lst (b.length + 1), .int mm, .int 3] = [some (.lst (b.length + 1)), some (.int mm), some (.int 3), none, none, none, none, none, none, none, none] := rfl
  rw [hst]
  unfold b_Ltree
  have n1 : gcR (SH b S g).length (.ok (.lst (b.length + (g.length + 2))) (SH b S1 (g ++ [.lst (ps.map eP)]))) = .ok (.lst (b.length + (g.length + 2))) (SH b S1 (g ++ [.lst (ps.map eP)])) := by
    have := gc_SHk (S := S1) (R := []) (n := b.length + (g.length + 2)) cb rfl (eP_puL (ps := ps))
    rw [SH_length]; exact this
  rw [seq_nx (σ1 := [some (.lst (b.length + 1)), some (.int mm), some (.int 3), some (.lst (b.length + (g.length + 2))), some (.int many), none, none, none, none, none, none]) (h1 := SH b S2 (g ++ [.lst (ps.map eP)]))]
  rotate_left
  · simp only [ev_c, ev_var, ev_nil, ev_cons, ev_tup, ev_lst, ev_op, ev_tst, ev_toB, ev_tru, ev_andT, ev_orT, ev_notT, ev_andV, ev_orV, ev_notV, ev_neg, ev_ifE, ev_no, ev_so, ev_sl, ev_cb, ev_isi, ev_mt, ev_lr1, ev_gc, ev_gct, ev_call, ev_nx, ev_seq, ev_exp, ev_ret, ev_if, ev_set, ev_asg, ev_par, ev_gnm, ev_gsb, ev_gsnil, ev_gscons, ev_gtp, ev_yes, ev_retR_rt, bind_ok, List.getElem?_cons_zero, List.getElem?_cons_succ, List.set_cons_zero, List.set_cons_succ, List.length_cons, List.length_nil, Nat.reduceAdd, Nat.reduceLeDiff, if_true, gc_same, gct_same, v_truB, Sm.v_add, Sm.v_sub, isL_lst, decide_true, decide_false, Bool.not_true, Bool.not_false, Bool.false_eq_true, if_false, x1, n1, x2, gcS, hm]
  have hl2 : (SH b S2 (g ++ [HE.lst (ps.map eP)])).length = b.length + (g.length + 2) + 1 := by rw [SH_length]; simp; omega
  have e3 : allocD [D.non] (SH b S2 (g ++ [.lst (ps.map eP)])) = .ok (.lst (SH b S2 (g ++ [HE.lst (ps.map eP)])).length) (SH b S2 (g ++ [.lst (ps.map eP)]) ++ [.lst [D.non]]) := v_alloc (by simp)
  have e4 : cLen [.lst (b.length + (g.length + 2))] (SH b S2 (g ++ [.lst (ps.map eP)]) ++ [.lst [D.non]]) = .ok (.int ps.length) (SH b S2 (g ++ [.lst (ps.map eP)]) ++ [.lst [D.non]]) := by
    rw [v_len (ds := ps.map eP) (dI_lst (by
      have : (SH b S2 (g ++ [HE.lst (ps.map eP)]))[b.length + (g.length + 2)]? = some (.lst (ps.map eP)) := hs_F (S := S2) (R := [])
      rw [List.getElem?_append_left (by omega)]; exact this)), List.length_map]
  have e5 := rep_gc (h := SH b S2 (g ++ [.lst (ps.map eP)])) (C1 S2) (n := ps.length) (x := .non) (by omega) rfl
  rw [seq_nx (σ1 := [some (.lst (b.length + 1)), some (.int mm), some (.int 3), some (.lst (b.length + (g.length + 2))), some (.int many), some (.lst (b.length + (g.length + 2) + 1)), none, none, none, none, none]) (h1 := HT' b g S2 ps (List.replicate ps.length .non) [])]
  rotate_left
  · simp only [ev_c, ev_var, ev_nil, ev_cons, ev_tup, ev_lst, ev_op, ev_tst, ev_toB, ev_tru, ev_andT, ev_orT, ev_notT, ev_andV, ev_orV, ev_notV, ev_neg, ev_ifE, ev_no, ev_so, ev_sl, ev_cb, ev_isi, ev_mt, ev_lr1, ev_gc, ev_gct, ev_call, ev_nx, ev_seq, ev_exp, ev_ret, ev_if, ev_set, ev_asg, ev_par, ev_gnm, ev_gsb, ev_gsnil, ev_gscons, ev_gtp, ev_yes, ev_retR_rt, bind_ok, List.getElem?_cons_zero, List.getElem?_cons_succ, List.set_cons_zero, List.set_cons_succ, List.length_cons, List.length_nil, Nat.reduceAdd, Nat.reduceLeDiff, if_true, gc_same, gct_same, v_truB, Sm.v_add, Sm.v_sub, isL_lst, decide_true, decide_false, Bool.not_true, Bool.not_false, Bool.false_eq_true, if_false, e3, e4, e5]
    rw [hl2, SH_app]
    unfold HT'
    simp
  obtain ⟨σ', h', e6, S3, P, J, z6, z7, z8, g3, rfl, rfl, hJ, hP, lP, hall⟩ := fFor_dn (fa := fOp dSub (fCB cLen (fCons (fVar 3) fNil)) (fC (.int 1))) (tgt := gNm 6) (body := (fSeq (fSet 7 (fGc (fLc [9] (iRg1 (fCB cLen (fCons (fVar 3) fNil))) (gNm 9) (fTst (fOp dEq (fOp dIx (fVar 3) (fVar 9)) (fVar 6))) (fVar 9)))) (fIf (fGcT (fTst (fOp dEq (fVar 7) (fLst fNil)))) (fAsg (fGc (fCB cTup (fCons (fGc (fLc [10] (iRg1 (fVar 4)) (gNm 10) fYes (fGc (fCall 2 m_Lpart (fCons (fGc (fOp dAdd (fC (.int 1)) (fGc (fCall 2 m_Ltake (fCons (fVar 0) (fCons (fC (.int 6)) fNil)))))) (fCons (fGc (fOp dAdd (fC (.int 1)) (fGc (fCall 2 m_Ltake (fCons (fVar 0) (fCons (fC (.int 2)) fNil)))))) fNil)))))) fNil))) (gSb (fVar 5) (fVar 6))) (fSeq (fSet 8 (fGc (fLc [9] (iSeq (fVar 7)) (gNm 9) fYes (fGc (fCall 2 m_Lpart (fCons (fGc (fOp dAdd (fC (.int 1)) (fGc (fCall 2 m_Ltake (fCons (fVar 0) (fCons (fC (.int 3)) fNil)))))) (fCons (fGc (fOp dAdd (fC (.int 1)) (fGc (fCall 2 m_Ltake (fCons (fVar 0) (fCons (fC (.int 3)) fNil)))))) fNil))))))) (fAsg (fGc (fCB cTup (fCons (fGc (fLc [10] (iRg1 (fVar 4)) (gNm 10) fYes (fGc (fCall 2 m_Ldot (fCons (fVar 8) (fCons (fGc (fLc [9] (iSeq (fVar 7)) (gNm 9) fYes (fOp dIx (fOp dIx (fVar 5) (fVar 9)) (fVar 10)))) fNil)))))) fNil))) (gSb (fVar 5) (fVar 6)))))))
    (σ := [some (.lst (b.length + 1)), some (.int mm), some (.int 3), some (.lst (b.length + (g.length + 2))), some (.int many), some (.lst (b.length + (g.length + 2) + 1)), none, none, none, none, none]) (h := HT' b g S2 ps (List.replicate ps.length .non) []) (n := ps.length) (by
      have : cLen [.lst (b.length + (g.length + 2))] (HT' b g S2 ps (List.replicate ps.length .non) []) = .ok (.int ps.length) (HT' b g S2 ps (List.replicate ps.length .non) []) := by rw [v_len (dI_lst ht_0), List.length_map]
      simp only [ev_c, ev_var, ev_nil, ev_cons, ev_tup, ev_lst, ev_op, ev_tst, ev_toB, ev_tru, ev_andT, ev_orT, ev_notT, ev_andV, ev_orV, ev_notV, ev_neg, ev_ifE, ev_no, ev_so, ev_sl, ev_cb, ev_isi, ev_mt, ev_lr1, ev_gc, ev_gct, ev_call, ev_nx, ev_seq, ev_exp, ev_ret, ev_if, ev_set, ev_asg, ev_par, ev_gnm, ev_gsb, ev_gsnil, ev_gscons, ev_gtp, ev_yes, ev_retR_rt, bind_ok, List.getElem?_cons_zero, List.getElem?_cons_succ, List.set_cons_zero, List.set_cons_succ, List.length_cons, List.length_nil, Nat.reduceAdd, Nat.reduceLeDiff, if_true, gc_same, gct_same, v_truB, Sm.v_add, Sm.v_sub, isL_lst, decide_true, decide_false, Bool.not_true, Bool.not_false, Bool.false_eq_true, if_false, this]) (by omega)
    (fun j σ h => ∃ S P J z6 z7 z8, Gd S ∧ σ = [some (.lst (b.length + 1)), some (.int mm), some (.int 3), some (.lst (b.length + (g.length + 2))), some (.int many), some (.lst (b.length + (g.length + 2) + 1)), z6, z7, z8, none, none] ∧ h = HT' b g S ps P J ∧ Pur J ∧ D.puL P = true ∧ P.length = ps.length ∧ ∀ k, ps.length - j ≤ k → k < ps.length → ∃ qs : List Rat, P[k]? = some (eR qs) ∧ qs.length = many ∧ SzL (pz (3 - dp k)) qs)
    ⟨S2, _, [], none, none, none, g2, rfl, rfl, (fun e m => by cases m), (puL_iff _).mpr (fun d m => by rw [List.eq_of_mem_replicate m]; rfl), by simp, fun k h1 h2 => by omega⟩ (by
      rintro j σ _ hj ⟨S3, P, J, z6, z7, z8, g3, rfl, rfl, hJ, hP, lP, hall⟩
      have hdn := hd3 (ps.length - 1 - j)
      have hkd : ∀ k ∈ kd ps (ps.length - 1 - j), ∃ qs : List Rat, P[k]? = some (eR qs) ∧ qs.length = many ∧ SzL (pz (3 - (dp (ps.length - 1 - j) + 1))) qs := by
        intro k m
        have e := mem_kd.mp m
        have hb := W.back e
        obtain ⟨qs, a, l, z⟩ := hall k (by omega) (List.getElem?_eq_some_iff.mp e).1
        refine ⟨qs, a, l, ?_⟩
        rw [hdp k _ e] at z
        exact z
      have hc : 3 * (3 + pz (3 - (dp (ps.length - 1 - j) + 1)) + 1) + 1 ≤ 4000 := Nat.le_trans (show pz (3 - (dp (ps.length - 1 - j) + 1) + 1) ≤ pz 3 from pz_mono (by omega)) pz_3
      obtain ⟨S4, J', qs, z7', z8', e, g4, hJ', lq, z0, z1⟩ := tree_node (b := b) (g := g) (S := S3) (ps := ps) (P := P) (J := J) (node := ps.length - 1 - j) (many := many) (c := pz (3 - (dp (ps.length - 1 - j) + 1))) (z7 := z7) (z8 := z8) (z9 := none) (z10 := none) (v1 := .int mm) (v2 := .int 3) g3 cb W hP hJ lP (by omega) m2 hc (Nat.le_trans (by decide) pz_ge) hkd
      refine ⟨[some (.lst (b.length + 1)), some (.int mm), some (.int 3), some (.lst (b.length + (g.length + 2))), some (.int many), some (.lst (b.length + (g.length + 2) + 1)), some (.int ((ps.length - 1 - j : Nat) : Int)), z7, z8, none, none], _, _, _, rfl, e, S4, _, J', _, z7', z8', g4, rfl, rfl, hJ', set_pu hP (eR_pu _), by simpa using lP, fun k h1 h2 => ?_⟩
      by_cases ek : k = ps.length - 1 - j
      · subst ek
        refine ⟨qs, by rw [List.getElem?_set_self (by omega)], lq, ?_⟩
        by_cases kn : kd ps (ps.length - 1 - j) = []
        · exact (z0 kn).mono pz_ge
        · obtain ⟨k', mk⟩ := List.exists_mem_of_ne_nil _ kn
          have := hdp k' _ (mem_kd.mp mk)
          have h3' := hd3 k'
          rw [show 3 - dp (ps.length - 1 - j) = 3 - (dp (ps.length - 1 - j) + 1) + 1 by omega]
          exact z1
      · obtain ⟨qs', a, l, z⟩ := hall k (by omega) h2
        exact ⟨qs', by rw [List.getElem?_set_ne (fun z => ek z.symm)]; exact a, l, z⟩)
  rw [seq_nx e6]
  have H3 : Clo (HT' b g S3 ps P J) := (ht_clo cb hP hJ) S3
  have e7 : cLen [.lst (b.length + (g.length + 2))] (HT' b g S3 ps P J) = .ok (.int ps.length) (HT' b g S3 ps P J) := by rw [v_len (dI_lst ht_0), List.length_map]
  have hPk : ∀ k, k < ps.length → P[k]? = some (P[k]?.getD .non) := fun k hk => by rw [List.getElem?_eq_getElem (by omega)]; rfl
  have x8 := fLc_rg (own := [9]) (fa := fCB cLen (fCons (fVar 3) fNil)) (tgt := gNm 9) (elt := fTup (fCons (fOp dIx (fVar 3) (fVar 9)) (fCons (fOp dIx (fVar 5) (fVar 9)) fNil))) (σ := [some (.lst (b.length + 1)), some (.int mm), some (.int 3), some (.lst (b.length + (g.length + 2))), some (.int many), some (.lst (b.length + (g.length + 2) + 1)), z6, z7, z8, none, none]) (h := HT' b g S3 ps P J) (n := ps.length) (by simp only [ev_c, ev_var, ev_nil, ev_cons, ev_tup, ev_lst, ev_op, ev_tst, ev_toB, ev_tru, ev_andT, ev_orT, ev_notT, ev_andV, ev_orV, ev_notV, ev_neg, ev_ifE, ev_no, ev_so, ev_sl, ev_cb, ev_isi, ev_mt, ev_lr1, ev_gc, ev_gct, ev_call, ev_nx, ev_seq, ev_exp, ev_ret, ev_if, ev_set, ev_asg, ev_par, ev_gnm, ev_gsb, ev_gsnil, ev_gscons, ev_gtp, ev_yes, ev_retR_rt, bind_ok, List.getElem?_cons_zero, List.getElem?_cons_succ, List.set_cons_zero, List.set_cons_succ, List.length_cons, List.length_nil, Nat.reduceAdd, Nat.reduceLeDiff, if_true, gc_same, gct_same, v_truB, Sm.v_add, Sm.v_sub, isL_lst, decide_true, decide_false, Bool.not_true, Bool.not_false, Bool.false_eq_true, if_false, e7]) (by omega) (fun k => .tup [eP (ps[k]?.getD none), P[k]?.getD .non]) (by
    intro k hk
    refine ⟨_, rfl, ?_⟩
    have i1 : dIx (.lst (b.length + (g.length + 2))) (.int k) (HT' b g S3 ps P J) = .ok (eP (ps[k]?.getD none)) (HT' b g S3 ps P J) := v_ixM (e := eP) (xs := ps) (sqn_l ht_0) (by rw [List.getElem?_eq_getElem hk]; rfl)
    have i2 : dIx (.lst (b.length + (g.length + 2) + 1)) (.int k) (HT' b g S3 ps P J) = .ok (P[k]?.getD .non) (HT' b g S3 ps P J) := v_ix (dI_lst ht_1) (atI_nat' (hPk k hk))
    simp only [wipeD, ev_c, ev_var, ev_nil, ev_cons, ev_tup, ev_lst, ev_op, ev_tst, ev_toB, ev_tru, ev_andT, ev_orT, ev_notT, ev_andV, ev_orV, ev_notV, ev_neg, ev_ifE, ev_no, ev_so, ev_sl, ev_cb, ev_isi, ev_mt, ev_lr1, ev_gc, ev_gct, ev_call, ev_nx, ev_seq, ev_exp, ev_ret, ev_if, ev_set, ev_asg, ev_par, ev_gnm, ev_gsb, ev_gsnil, ev_gscons, ev_gtp, ev_yes, ev_retR_rt, bind_ok, List.getElem?_cons_zero, List.getElem?_cons_succ, List.set_cons_zero, List.set_cons_succ, List.length_cons, List.length_nil, Nat.reduceAdd, Nat.reduceLeDiff, if_true, gc_same, gct_same, v_truB, Sm.v_add, Sm.v_sub, isL_lst, decide_true, decide_false, Bool.not_true, Bool.not_false, Bool.false_eq_true, if_false, i1, i2])
  have pun : D.puL ((List.range ps.length).map fun k => D.tup [eP (ps[k]?.getD none), P[k]?.getD .non]) = true := (puL_iff _).mpr fun d m => by
    obtain ⟨k, mk, rfl⟩ := List.mem_map.mp m
    rw [List.mem_range] at mk
    have h1 : (P[k]?.getD .non).pu = true := (puL_iff _).mp hP _ (List.mem_of_getElem? (hPk k mk))
    simp only [D.pu, D.puL, eP_pu, h1, Bool.and_self]
  have et := tup_gc H3 pun
  refine ⟨S3, .lst (ps.map eP) :: .lst P :: J, .tup [.str "tree", .tup (Sm.cutD [.str "a", .str "b"] none (some many)), .tup ((List.range ps.length).map fun k => D.tup [eP (ps[k]?.getD none), P[k]?.getD .non])], ?_, g3, ⟨_, _, _, rfl, by simp, fun k p e => ?_⟩, ?_⟩
  · have ed : ∀ h : MH, dSl (.tup [.str "a", .str "b"]) none (some (many : Int)) h = .ok (.tup (Sm.cutD [.str "a", .str "b"] none (some (many : Int)))) h := fun h => rfl
    simp only [ev_c, ev_var, ev_nil, ev_cons, ev_tup, ev_lst, ev_op, ev_tst, ev_toB, ev_tru, ev_andT, ev_orT, ev_notT, ev_andV, ev_orV, ev_notV, ev_neg, ev_ifE, ev_no, ev_so, ev_sl, ev_cb, ev_isi, ev_mt, ev_lr1, ev_gc, ev_gct, ev_call, ev_nx, ev_seq, ev_exp, ev_ret, ev_if, ev_set, ev_asg, ev_par, ev_gnm, ev_gsb, ev_gsnil, ev_gscons, ev_gtp, ev_yes, ev_retR_rt, bind_ok, List.getElem?_cons_zero, List.getElem?_cons_succ, List.set_cons_zero, List.set_cons_succ, List.length_cons, List.length_nil, Nat.reduceAdd, Nat.reduceLeDiff, if_true, gc_same, gct_same, v_truB, Sm.v_add, Sm.v_sub, isL_lst, decide_true, decide_false, Bool.not_true, Bool.not_false, Bool.false_eq_true, if_false, ed, x8, gc_np H3 pun, et]
    rfl
  · have kl := (List.getElem?_eq_some_iff.mp e).1
    exact ⟨P[k]?.getD .non, by rw [List.getElem?_map, List.getElem?_range kl, Option.map_some, e]; rfl⟩
  · have : D.puL (Sm.cutD [D.str "a", .str "b"] none (some (many : Int))) = true := cut_pu rfl
    simp only [D.pu, D.puL, this, pun, Bool.and_self, Bool.and_true, Bool.true_and]
end
end Lw

/-! k47_M3: plain: weights and costs on trees. -/
namespace Lw
open PySem PySem.Spec PyProof.Rows L2 Sm Sq
theorem sm_zero {ks : List Nat} : sm (fun _ => 0) ks = 0 := by
  induction ks with
  | nil => rfl
  | cons k ks ih => rw [sm_cons, ih]; grind
theorem sm_swap {f : Nat → Nat → Rat} {ks ls : List Nat} : sm (fun p => sm (fun k => f p k) ks) ls = sm (fun k => sm (fun p => f p k) ls) ks := by
  induction ls with
  | nil => simp [sm_zero]
  | cons l ls ih =>
    rw [sm_cons, ih, ← sm_add]
    rfl
theorem sm_single {c : Rat} {q : Nat} : ∀ {ks : List Nat}, ks.Nodup → q ∈ ks → sm (fun p => if q = p then c else 0) ks = c
  | [], _, m => by cases m
  | k :: ks, nd, m => by
    have nd' := List.nodup_cons.mp nd
    rw [sm_cons]
    by_cases e : q = k
    · subst e
      rw [if_pos rfl]
      have : sm (fun p => if q = p then c else 0) ks = sm (fun _ => 0) ks := sm_congr fun p mp => if_neg fun z => nd'.1 (by rw [z]; exact mp)
      rw [this, sm_zero]; grind
    · rw [if_neg e]
      rcases List.mem_cons.mp m with z | m
      · exact absurd z e
      · rw [sm_single nd'.2 m]; grind
theorem sm_filter {f : Nat → Rat} {p : Nat → Bool} {ks : List Nat} : sm f (ks.filter p) = sm (fun k => if p k = true then f k else 0) ks := by
  induction ks with
  | nil => rfl
  | cons k ks ih =>
    cases h : p k with
    | true => rw [List.filter_cons_of_pos h, sm_cons, sm_cons, ih, if_pos h]
    | false => rw [List.filter_cons_of_neg (by simp [h]), sm_cons, ih, if_neg (by simp [h])]; grind
theorem sm_sub {f g : Nat → Rat} {ks : List Nat} : sm (fun k => f k - g k) ks = sm f ks - sm g ks := by
  induction ks with
  | nil => simp; grind
  | cons k ks ih => simp [ih]; grind
theorem sm_le {f g : Nat → Rat} {ks : List Nat} (h : ∀ k ∈ ks, f k ≤ g k) : sm f ks ≤ sm g ks := by
  have := sm_nonneg (f := fun k => g k - f k) (ks := ks) fun k m => by have := h k m; grind
  rw [sm_sub] at this
  grind
/-- what is reached by the roads of places in a row without repeats -/
theorem map_idx {α : Type} {ks : List Nat} (nd : ks.Nodup) (f : Nat → Nat → α) : (ks.map fun k => f (ks.idxOf k) k) = (List.range ks.length).map fun i => f i (ks[i]?.getD 0) := by
  apply List.ext_getElem?
  intro i
  rw [List.getElem?_map, List.getElem?_map]
  by_cases l : i < ks.length
  · rw [List.getElem?_eq_getElem l, List.getElem?_range l]
    simp only [Option.map_some, Option.getD_some, List.getElem?_eq_getElem l]
    rw [nd.idxOf_getElem i l]
  · rw [List.getElem?_eq_none (by omega), List.getElem?_eq_none (by simp; omega)]; rfl
theorem kd_nodup {ps : List (Option Nat)} {p : Nat} : (kd ps p).Nodup := List.nodup_range.sublist List.filter_sublist
section
variable {ps : List (Option Nat)}
/-- each node but the first is ahead of one node -/
theorem dc (W : WF ps) (f : Nat → Rat) : sm (fun p => sm f (kd ps p)) (List.range ps.length) = sm f (List.range ps.length) - f 0 := by
  have h1 : sm (fun p => sm f (kd ps p)) (List.range ps.length) = sm (fun p => sm (fun k => if (ps[k]? == some (some p)) = true then f k else 0) (List.range ps.length)) (List.range ps.length) := sm_congr fun p _ => sm_filter
  rw [h1, sm_swap]
  have h2 : sm (fun k => sm (fun p => if (ps[k]? == some (some p)) = true then f k else 0) (List.range ps.length)) (List.range ps.length) = sm (fun k => f k - (if 0 = k then f 0 else 0)) (List.range ps.length) := by
    refine sm_congr fun k mk => ?_
    rw [List.mem_range] at mk
    by_cases k0 : k = 0
    · subst k0
      rw [if_pos rfl]
      have : sm (fun p => if (ps[0]? == some (some p)) = true then f 0 else 0) (List.range ps.length) = sm (fun _ => 0) (List.range ps.length) := sm_congr fun p _ => if_neg (by rw [W.root]; simp)
      rw [this, sm_zero]; grind
    · obtain ⟨q, e, lq⟩ := W.par k (by omega) mk
      rw [if_neg (fun z => k0 z.symm)]
      have : sm (fun p => if (ps[k]? == some (some p)) = true then f k else 0) (List.range ps.length) = sm (fun p => if q = p then f k else 0) (List.range ps.length) := sm_congr fun p _ => by
        rw [e]
        by_cases z : q = p
        · subst z; rw [if_pos (by simp), if_pos rfl]
        · rw [if_neg (by simpa using z), if_neg z]
      rw [this, sm_single List.nodup_range (List.mem_range.mpr (by omega))]; grind
  rw [h2, sm_sub, sm_single List.nodup_range (List.mem_range.mpr W.pos)]
/-- chances at the nodes -/
def cAt (C : List (List Rat)) (p : Nat) : List Rat := C[p]?.getD []
structure CH (ps : List (Option Nat)) (C : List (List Rat)) : Prop where
  len : C.length = ps.length
  none : ∀ k, k < ps.length → kd ps k = [] → cAt C k = []
  some : ∀ k, k < ps.length → kd ps k ≠ [] → Chn (kd ps k).length (cAt C k)
/-- the chance of going from p to k -/
def cc (ps : List (Option Nat)) (C : List (List Rat)) (p k : Nat) : Rat := Vf (cAt C p) ((kd ps p).idxOf k)
structure WT (ps : List (Option Nat)) (C : List (List Rat)) (w : Nat → Rat) : Prop where
  root : w 0 = 1
  step : ∀ k p, ps[k]? = some (some p) → w k = w p * cc ps C p k
variable {C : List (List Rat)} {w X row : Nat → Rat}
theorem kd_ne {k p : Nat} (e : ps[k]? = some (some p)) : kd ps p ≠ [] := fun z => by
  have := mem_kd.mpr e
  rw [z] at this; cases this
theorem CH.nn (H : CH ps C) {p : Nat} (l : p < ps.length) : ∀ q ∈ cAt C p, 0 ≤ q := fun q m => by
  by_cases h : kd ps p = []
  · rw [H.none p l h] at m; cases m
  · have := (H.some p l h).2.2.1 q m; grind
theorem CH.sz (H : CH ps C) {p : Nat} (l : p < ps.length) : SzL 5 (cAt C p) := fun q m => by
  by_cases h : kd ps p = []
  · rw [H.none p l h] at m; cases m
  · exact (H.some p l h).2.1 q m
theorem WT.nn (W : WF ps) (H : CH ps C) (T : WT ps C w) : ∀ k, k < ps.length → 0 ≤ w k := by
  intro k
  induction k using Nat.strongRecOn with
  | ind k ih =>
    intro l
    rcases Nat.eq_zero_or_pos k with z | z
    · subst z; rw [T.root]; decide
    · obtain ⟨p, e, lp⟩ := W.par k z l
      rw [T.step k p e]
      exact Rat.mul_nonneg (ih p lp (by omega)) (Vf_nonneg (H.nn (by omega)) _)
theorem WT.sz (W : WF ps) (H : CH ps C) (T : WT ps C w) {dp : Nat → Nat} (hd : ∀ k p, ps[k]? = Option.some (Option.some p) → dp k = dp p + 1) : ∀ k, k < ps.length → Sz (1 + 5 * dp k) (w k) := by
  intro k
  induction k using Nat.strongRecOn with
  | ind k ih =>
    intro l
    rcases Nat.eq_zero_or_pos k with z | z
    · subst z; rw [T.root]; exact sz_1.mono (by omega)
    · obtain ⟨p, e, lp⟩ := W.par k z l
      rw [T.step k p e, hd k p e]
      exact (sz_mul (ih p lp (by omega)) (sz_Vf (H.sz (by omega)) (by decide) _)).mono (by omega)
/-- the mean of what lies ahead -/
def ahd (ps : List (Option Nat)) (C : List (List Rat)) (X : Nat → Rat) (p : Nat) : Rat := sm (fun k => cc ps C p k * X k) (kd ps p)
theorem mean_eq (W : WF ps) (T : WT ps C w) (X : Nat → Rat) : sm (fun k => w k * (X k - ahd ps C X k)) (List.range ps.length) = X 0 := by
  have h1 : sm (fun k => w k * (X k - ahd ps C X k)) (List.range ps.length) = sm (fun k => w k * X k) (List.range ps.length) - sm (fun p => sm (fun k => w k * X k) (kd ps p)) (List.range ps.length) := by
    rw [← sm_sub]
    refine sm_congr fun p _ => ?_
    have : sm (fun k => w k * X k) (kd ps p) = w p * ahd ps C X p := by
      unfold ahd
      rw [← sm_mul]
      refine sm_congr fun k mk => ?_
      rw [T.step k p (mem_kd.mp mk)]; grind
    rw [this]; grind
  rw [h1, dc W, T.root]; grind
/-- the rows ahead in places -/
theorem pro_kids {p : Nat} {f : Nat → Rat} (hl : (cAt C p).length = (kd ps p).length) : tot (pro (cAt C p) ((kd ps p).map f)) = sm (fun k => cc ps C p k * f k) (kd ps p) := by
  rw [pro_rows (by simpa using hl), List.length_map]
  unfold sm cc
  rw [map_idx kd_nodup (fun i k => Vf (cAt C p) i * f k)]
  congr 1
  apply List.map_congr_left
  intro i m
  rw [List.mem_range] at m
  congr 1
  unfold Vf
  rw [List.getElem?_map, List.getElem?_eq_getElem m]; rfl
theorem ahd_leaf {p : Nat} (h : kd ps p = []) : ahd ps C X p = 0 := by unfold ahd; rw [h]; rfl
theorem ahd_one (H : CH ps C) {p : Nat} (l : p < ps.length) (h : kd ps p ≠ []) : ahd ps C (fun _ => 1) p = 1 := by
  have hc := H.some p l h
  have h1 := pro_kids (ps := ps) (C := C) (p := p) (f := fun _ => 1) hc.1
  have h2 : tot (pro (cAt C p) ((kd ps p).map fun _ => (1 : Rat))) = tot (cAt C p) := by
    rw [tot_pro (by simpa using hc.1), tot_sm, hc.1, List.length_map]
    refine sm_congr fun k mk => ?_
    rw [List.mem_range] at mk
    have : Vf ((kd ps p).map fun _ => (1 : Rat)) k = 1 := by simp [Vf, mk]
    rw [this]; grind
  unfold ahd
  rw [← h1, h2, hc.2.2.2]
/-- the ends carry all -/
theorem ends_one (W : WF ps) (H : CH ps C) (T : WT ps C w) : sm w ((List.range ps.length).filter fun k => decide (kd ps k = [])) = 1 := by
  rw [sm_filter, ← mean_eq W T fun _ => 1]
  refine sm_congr fun k mk => ?_
  rw [List.mem_range] at mk
  by_cases h : kd ps k = []
  · rw [if_pos (by simpa using h), ahd_leaf h]; grind
  · rw [if_neg (by simpa using h), ahd_one H mk h]; grind
/-! worst costs -/
noncomputable def spl (vs : List Rat) : List Nat := open Classical in if h : ∃ pl, Srt (Vf vs) vs.length pl then Classical.choose h else []
theorem spl_srt {vs : List Rat} (z : SzL 4000 vs) (l : vs.length < 1000000) : Srt (Vf vs) vs.length (spl vs) := by
  obtain ⟨pl, p, _⟩ := e_sorted_places (h := []) (v := .tup (vs.map eQ)) clo_nil sqn_t z l
  have h : ∃ pl, Srt (Vf vs) vs.length pl := ⟨pl, p⟩
  unfold spl
  rw [dif_pos h]
  exact Classical.choose_spec h
noncomputable def wvs (vs cs : List Rat) (s : Rat) : Rat := wv vs cs s (spl vs)
/-- the worst costs, told from the ends -/
def Cst' (ps : List (Option Nat)) (C : List (List Rat)) (s : Rat) (row X : Nat → Rat) : Prop :=
  ∀ k, k < ps.length → (kd ps k = [] → X k = row k) ∧ (kd ps k ≠ [] → X k = row k + -(wvs ((kd ps k).map fun j => -X j) (cAt C k) s))
def Mst (ps : List (Option Nat)) (row M : Nat → Rat) : Prop :=
  ∀ k, k < ps.length → (kd ps k = [] → M k = row k) ∧ ∀ j js, kd ps k = j :: js → M k = row k + mxF (M j) (js.map M)
/-- not too large -/
def cz : Nat → Nat
  | 0 => 2
  | i + 1 => 3 * cz i + 250
theorem cz_mono {i j : Nat} (h : i ≤ j) : cz i ≤ cz j := by
  induction j with
  | zero => rw [Nat.le_zero.mp h]; exact Nat.le_refl _
  | succ j ih =>
    rcases Nat.lt_or_ge j i with l | l
    · rw [show i = j + 1 by omega]; exact Nat.le_refl _
    · exact Nat.le_trans (ih l) (by show cz j ≤ 3 * cz j + 250; omega)
theorem cz_ge {i : Nat} : 2 ≤ cz i := cz_mono (i := 0) (by omega)
theorem cz_le {i : Nat} (h : i ≤ 3) : cz i ≤ 3600 := Nat.le_trans (cz_mono h) (by decide)
def Szs (ps : List (Option Nat)) (dp : Nat → Nat) (X : Nat → Rat) : Prop := ∀ k, k < ps.length → Sz (cz (3 - dp k)) (X k)
variable {s : Rat} {dp : Nat → Nat}
theorem szs_kids (W : WF ps) (hd : ∀ k p, ps[k]? = some (some p) → dp k = dp p + 1) (z : Szs ps dp X) (f : Nat → Rat) (hf : ∀ k, f k = X k ∨ f k = -X k) (p : Nat) : SzL (cz (3 - (dp p + 1))) ((kd ps p).map f) := by
  intro q m
  obtain ⟨k, mk, rfl⟩ := List.mem_map.mp m
  have e := mem_kd.mp mk
  have := z k (List.getElem?_eq_some_iff.mp e).1
  rw [hd k p e] at this
  rcases hf k with h | h
  · rw [h]; exact this
  · rw [h]; exact sz_neg this
theorem giv_kids (W : WF ps) (H : CH ps C) (hd : ∀ k p, ps[k]? = some (some p) → dp k = dp p + 1) (z : Szs ps dp X) (s0 : 0 < s) (s1 : s ≤ 1) {p : Nat} (l : p < ps.length) (h : kd ps p ≠ []) :
    Giv ((kd ps p).map fun j => -X j) (cAt C p) s (spl ((kd ps p).map fun j => -X j)) := by
  have := W.few p
  refine ⟨by rw [List.length_map]; exact H.some p l h, s0, s1, spl_srt ((szs_kids W hd z (fun j => -X j) (fun k => .inr rfl) p).mono (Nat.le_trans (cz_le (by omega)) (by decide))) (by simp; omega)⟩
theorem neg_ahd (H : CH ps C) {p : Nat} (l : p < ps.length) (h : kd ps p ≠ []) : tot (pro (cAt C p) ((kd ps p).map fun j => -X j)) = - ahd ps C X p := by
  rw [pro_kids (H.some p l h).1]
  unfold ahd
  have : sm (fun k => cc ps C p k * -X k) (kd ps p) = sm (fun k => (-1) * (cc ps C p k * X k)) (kd ps p) := sm_congr fun k _ => by grind
  rw [this, sm_mul]; grind
/-- the whole share: the mean -/
theorem cost_mean (W : WF ps) (H : CH ps C) (T : WT ps C w) (hd : ∀ k p, ps[k]? = some (some p) → dp k = dp p + 1) (z : Szs ps dp X) (hX : Cst' ps C 1 row X) : X 0 = sm (fun k => w k * row k) (List.range ps.length) := by
  rw [← mean_eq W T X]
  refine sm_congr fun k mk => ?_
  rw [List.mem_range] at mk
  have h := hX k mk
  by_cases hk : kd ps k = []
  · rw [h.1 hk, ahd_leaf hk]; grind
  · have G := giv_kids W H hd z (s := 1) (by decide) (by decide) mk hk
    have e := wv_one G.ch.1 (H.nn mk) G.ch.2.2.2 G.so
    rw [h.2 hk]
    unfold wvs
    rw [e, neg_ahd H mk hk]; grind
/-- a share: not under the mean -/
theorem cost_ge (W : WF ps) (H : CH ps C) (T : WT ps C w) (hd : ∀ k p, ps[k]? = some (some p) → dp k = dp p + 1) (z : Szs ps dp X) (s0 : 0 < s) (s1 : s ≤ 1) (hX : Cst' ps C s row X) : sm (fun k => w k * row k) (List.range ps.length) ≤ X 0 := by
  rw [← mean_eq W T X]
  refine sm_le fun k mk => ?_
  rw [List.mem_range] at mk
  have h := hX k mk
  refine Rat.mul_le_mul_of_nonneg_left ?_ (WT.nn W H T k mk)
  by_cases hk : kd ps k = []
  · rw [h.1 hk, ahd_leaf hk]; grind
  · have G := giv_kids W H hd z s0 s1 mk hk
    have e := G.mean
    rw [due_wv G.so.1, neg_ahd H mk hk] at e
    rw [h.2 hk]
    unfold wvs
    grind
theorem mx_neg {qs : List Rat} : ∀ {q : Rat}, mnF (-q) (qs.map fun x => -x) = -mxF q qs := by
  induction qs with
  | nil => intro q; rfl
  | cons x qs ih =>
    intro q
    show mnF (if -x < -q then -x else -q) (qs.map fun x => -x) = -mxF (if q < x then x else q) qs
    have : (if -x < -q then -x else -q) = -(if q < x then x else q) := by split <;> split <;> grind
    rw [this, ih]
/-- a small share: the greatest -/
theorem cost_small (W : WF ps) (H : CH ps C) (hd : ∀ k p, ps[k]? = some (some p) → dp k = dp p + 1) (z : Szs ps dp X) (s0 : 0 < s) (s1 : s ≤ 1 / 20) (hX : Cst' ps C s row X) : Mst ps row X := by
  intro k mk
  refine ⟨(hX k mk).1, fun j js e => ?_⟩
  have hk : kd ps k ≠ [] := by rw [e]; simp
  have G := giv_kids W H hd z s0 (by grind) mk hk
  have e2 := wv_small (q := -X j) (qs := (js.map X).map fun x => -x) (by rw [e]; simp) G.ch.1 (H.some k mk hk).2.2.1 s0 s1 G.so
  rw [mx_neg] at e2
  rw [(hX k mk).2 hk]
  unfold wvs
  rw [e2]; grind
theorem mst_unique (W : WF ps) {M N : Nat → Rat} (h : Mst ps row M) (h' : Mst ps row N) : ∀ k, k < ps.length → M k = N k := by
  suffices H : ∀ d k, k < ps.length → ps.length - k ≤ d → M k = N k from fun k l => H _ k l (Nat.le_refl _)
  intro d
  induction d with
  | zero => intro k l m; omega
  | succ d ih =>
    intro k l m
    match hk : kd ps k with
    | [] => rw [(h k l).1 hk, (h' k l).1 hk]
    | j :: js =>
      have hm : ∀ i ∈ kd ps k, M i = N i := fun i mi => by
        have e := mem_kd.mp mi
        have := W.back e
        exact ih i (List.getElem?_eq_some_iff.mp e).1 (by omega)
      rw [hk] at hm
      rw [(h k l).2 j js hk, (h' k l).2 j js hk, hm j (List.mem_cons_self ..), List.map_congr_left fun i mi => hm i (List.mem_cons_of_mem _ mi)]
/-- greedy sums are not under the least value -/
theorem Giv.least_le {vs cs : List Rat} {pl : List Nat} (G : Giv vs cs s pl) {m : Rat} (h : ∀ q ∈ vs, m ≤ q) : m ≤ wv vs cs s pl := by
  have e := gw_sum (c := fun k => Vf cs k / s) (srt_nd G.so) (L := 1) (by decide) (fun k _ => G.cap0 k) G.enough
  have : sm (fun k => m * gw (fun k => Vf cs k / s) 1 pl k) pl ≤ wv vs cs s pl := by
    unfold wv
    refine sm_le fun k mk => ?_
    have b := gw_bounds (c := fun k => Vf cs k / s) (j := k) (ks := pl) (L := 1) (by decide) (fun k _ => G.cap0 k)
    have hv : m ≤ Vf vs k := by
      have l := srt_lt G.so mk
      unfold Vf; rw [List.getElem?_eq_getElem l]; exact h _ (List.getElem_mem _)
    have := Rat.mul_le_mul_of_nonneg_right hv b.1
    grind
  rw [sm_mul, e] at this
  grind
theorem cost_le (W : WF ps) (H : CH ps C) (hd : ∀ k p, ps[k]? = some (some p) → dp k = dp p + 1) (z : Szs ps dp X) (s0 : 0 < s) (s1 : s ≤ 1) (hX : Cst' ps C s row X) {M : Nat → Rat} (hM : Mst ps row M) : ∀ k, k < ps.length → X k ≤ M k := by
  suffices Q : ∀ d k, k < ps.length → ps.length - k ≤ d → X k ≤ M k from fun k l => Q _ k l (Nat.le_refl _)
  intro d
  induction d with
  | zero => intro k l m; omega
  | succ d ih =>
    intro k l m
    match hk : kd ps k with
    | [] => rw [(hX k l).1 hk, (hM k l).1 hk]; exact Rat.le_refl
    | j :: js =>
      have hne : kd ps k ≠ [] := by rw [hk]; simp
      have G := giv_kids W H hd z s0 s1 l hne
      rw [(hX k l).2 hne, (hM k l).2 j js hk]
      have mx := mxF_le (q := M j) (qs := js.map M)
      have := G.least_le (m := -(mxF (M j) (js.map M))) (fun q mq => by
        obtain ⟨i, mi, rfl⟩ := List.mem_map.mp mq
        have e := mem_kd.mp mi
        have := W.back e
        have h1 := ih i (List.getElem?_eq_some_iff.mp e).1 (by omega)
        rw [hk] at mi
        have h2 : M i ≤ mxF (M j) (js.map M) := by
          rcases List.mem_cons.mp mi with rfl | mi
          · exact mx.1
          · exact mx.2 _ (List.mem_map.mpr ⟨i, mi, rfl⟩)
        grind)
      unfold wvs
      grind
end
end Lw

/-! k47_EB: chances of nodes, means, shares of nodes. -/
namespace Lw
open PySem PySem.Spec PyProof.Rows L2 Sm Sq
/-- rows at the nodes -/
def eT (C : List (List Rat)) : D := .tup (C.map eR)
@[simp] theorem eT_pu (C : List (List Rat)) : (eT C).pu = true := (puL_iff _).mpr fun d m => by obtain ⟨q, _, rfl⟩ := List.mem_map.mp m; exact eR_pu q
theorem flat_eT (C : List (List Rat)) : Flat (eT C) := Flat.tup fun d m => by
  obtain ⟨q, _, rfl⟩ := List.mem_map.mp m
  exact ⟨(flat_eR q).1, by
    show D.depL (q.map eQ) + 1 ≤ 29
    have : D.depL (q.map eQ) ≤ 1 := (depL_le _ 1).mpr fun d m => by obtain ⟨x, _, rfl⟩ := List.mem_map.mp m; simp [eQ, D.dep, D.depL]
    omega⟩
theorem eT_inj {p q : List (List Rat)} : eT p = eT q ↔ p = q := by
  unfold eT
  rw [D.tup.injEq]
  exact ⟨fun h => (List.map_inj_right fun a b => eR_inj.mp).mp h, fun h => by rw [h]⟩
theorem ne_eT {h : MH} {p q : List (List Rat)} : dNe (eT p) (eT q) h = .ok (.bl (!decide (p = q))) h := by
  rw [v_ne (flat_eT _) (flat_eT _)]
  congr 3
  rw [decide_eq_decide, eT_inj]
theorem eq_eT {h : MH} {p q : List (List Rat)} : dEq (eT p) (eT q) h = .ok (.bl (decide (p = q))) h := by
  rw [v_eq (flat_eT _) (flat_eT _)]
  congr 2
  rw [decide_eq_decide, eT_inj]
theorem v_index {h : MH} {n : Nat} {ks : List Nat} {k : Nat} (e : h[n]? = some (.lst (ks.map eI))) (m : k ∈ ks) : mIndex (.lst n) [.int k] h = .ok (.int (ks.idxOf k : Nat)) h := by
  have h1 : dL h (.lst n) = some (ks.map eI) := dL_lst e
  have h2 : py 40 h (.int k) = some (.int k) := rfl
  have h3 : pyL (py 40 h) (ks.map eI) = some (ks.map fun k : Nat => PyData.int k) := by
    clear e m h1
    induction ks with
    | nil => rfl
    | cons k ks ih => simp only [List.map_cons, pyL, ih]; rfl
  have h4 : SeqAt.shaped (.int k) = true := rfl
  have h5 : SeqAt.shaped (.list (ks.map fun k : Nat => PyData.int k)) = true := by
    have := sh_lst (flatL_eI ks)
    have e2 : D.toPyL (ks.map eI) = ks.map fun k : Nat => PyData.int k := by
      clear e m h1 h3 this
      induction ks with
      | nil => rfl
      | cons k ks ih => simp only [List.map_cons, D.toPyL, ih]; rfl
    rw [e2] at this
    exact this
  have h6 : (ks.map fun k : Nat => PyData.int k).findIdx? (fun z => PyData.eqv z (.int k)) = some (ks.idxOf k) := by
    clear e h1 h3 h5
    induction ks with
    | nil => cases m
    | cons j ks ih =>
      rw [List.map_cons, List.findIdx?_cons]
      have hq : PyData.eqv (.int j) (.int k) = decide (j = k) := by
        simp only [PyData.eqv]
        rw [Bool.eq_iff_iff]; simp; omega
      rw [hq, List.idxOf_cons]
      by_cases z : j = k
      · subst z; simp
      · have m' : k ∈ ks := by
          rcases List.mem_cons.mp m with m | m
          · exact absurd m.symm z
          · exact m
        rw [ih m']
        have z' : (j == k) = false := by simpa using z
        simp [z, z']
  simp only [mIndex, h1, h2, h3, h4, h5, Bool.and_self, if_true, h6]
section
variable {ps : List (Option Nat)} {C : List (List Rat)} {w : Nat → Rat} {t : D} {dp : Nat → Nat} {h : MH}
theorem v_ixT {k : Nat} (l : k < C.length) : dIx (eT C) (.int k) h = .ok (eR (cAt C k)) h := v_ixM (e := eR) (xs := C) sqn_t (by unfold cAt; rw [List.getElem?_eq_getElem l]; rfl)
theorem v_ixR {qs : List Rat} {k : Nat} (l : k < qs.length) : dIx (eR qs) (.int k) h = .ok (eQ (Vf qs k)) h := v_ixV (d := eR qs) (vs := qs) sqn_t l
theorem e_chance (c : Clo h) (W : WF ps) (T : TreeD t ps) (H : CH ps C) (wt : WT ps C w) (hd : ∀ k p, ps[k]? = some (some p) → dp k = dp p + 1) (hd3 : ∀ k, dp k ≤ 3) {k0 : Nat} (l0 : k0 < ps.length) :
    m_chance [t, eT C, .int k0] h = .ok (eQ (w k0)) h := by
  unfold m_chance mOf b_chance
  obtain ⟨nodes, t1, t2, t3⟩ := T.nodes h
  obtain ⟨m', σ', h', e, ⟨f, z4, rfl, eh, hm, hf, hz⟩, hc⟩ := fWhile_inv (c := fTst (fOp dNe (fVar 2) (fC (.int 0)))) (b := fSeq (fSet 4 (fOp dIx (fOp dIx (fOp dIx (fVar 0) (fC (.int 2))) (fVar 2)) (fC (.int 0)))) (fSeq (fSet 3 (fGc (fCall 2 m_times (fCons (fVar 3) (fCons (fOp dIx (fOp dIx (fVar 1) (fVar 4)) (fGc (fMt mIndex (fGc (fCall 2 m_ahead (fCons (fVar 0) (fCons (fVar 4) fNil)))) (fCons (fVar 2) fNil)))) fNil))))) (fSet 2 (fVar 4))))
    (fun m σ h' => ∃ (f : Rat) (z4 : Option D), σ = [some t, some (eT C), some (.int m), some (eQ f), z4] ∧ h' = h ∧ m < ps.length ∧ f * w m = w k0 ∧ Sz (1 + 5 * (3 - dp m)) f) [some t, some (eT C), some (.int k0), some (eQ 1), none] h k0 ⟨1, none, rfl, rfl, l0, by grind, sz_1.mono (by omega)⟩ (by
      rintro m σ h' ⟨f, z4, rfl, eh, hm, hf, hz⟩
      rw [eh]
      by_cases m0 : m = 0
      · subst m0
        left
        exact ⟨_, by simp, rfl⟩
      · right
        obtain ⟨p, ep, lp⟩ := W.par m (by omega) hm
        obtain ⟨r, e3⟩ := t3 m _ ep
        have hi : (kd ps p).idxOf m < (kd ps p).length := List.idxOf_lt_length_of_mem (mem_kd.mpr ep)
        have hch := H.some p (by omega) (kd_ne ep)
        have e4 : m_ahead [t, .int p] h = _ := e_ahead T (by have := W.len; omega) p c
        have e5 := v_index (h := h ++ [.lst ((kd ps p).map eI)]) (n := h.length) (ks := kd ps p) (k := m) (by simp) (mem_kd.mpr ep)
        have hdm := hd m p ep
        have h3 := hd3 m
        have o1 : Ok f := hz.mono (by omega)
        have o2 : Ok (Vf (cAt C p) ((kd ps p).idxOf m)) := ok_Vf (H.sz (by omega)) (by decide) _
        have e6 : gcR h.length (.ok (.int ((kd ps p).idxOf m : Nat)) (h ++ [.lst ((kd ps p).map eI)])) = .ok (.int ((kd ps p).idxOf m : Nat)) h := gc_dp c rfl
        refine ⟨by simp [m0], p, [some t, some (eT C), some (.int p), some (eQ (f * Vf (cAt C p) ((kd ps p).idxOf m))), some (.int p)], h, lp, ?_, f * Vf (cAt C p) ((kd ps p).idxOf m), some (.int p), rfl, rfl, by omega, ?_, ?_⟩
        · simp only [ev_c, ev_var, ev_nil, ev_cons, ev_tup, ev_lst, ev_op, ev_tst, ev_toB, ev_tru, ev_andT, ev_orT, ev_notT, ev_andV, ev_orV, ev_notV, ev_neg, ev_ifE, ev_no, ev_so, ev_sl, ev_cb, ev_isi, ev_mt, ev_lr1, ev_gc, ev_gct, ev_call, ev_nx, ev_seq, ev_exp, ev_ret, ev_if, ev_set, ev_asg, ev_par, ev_gnm, ev_gsb, ev_gsnil, ev_gscons, ev_gtp, ev_yes, ev_retR_rt, bind_ok, List.getElem?_cons_zero, List.getElem?_cons_succ, List.set_cons_zero, List.set_cons_succ, List.length_cons, List.length_nil, Nat.reduceAdd, Nat.reduceLeDiff, if_true, gc_same, gct_same, v_truB, Sm.v_add, Sm.v_sub, isL_lst, decide_true, decide_false, Bool.not_true, Bool.not_false, Bool.false_eq_true, if_false, t1, e3, v_ix0, eP, e4, gc_np c (eIs_pu _), e5, e6, v_ixT (show p < C.length by rw [H.len]; omega), v_ixR (show (kd ps p).idxOf m < (cAt C p).length by rw [hch.1]; exact hi), e_times o1 o2]
        · rw [← hf, wt.step m p ep]; unfold cc; grind
        · exact (sz_mul hz (sz_Vf (H.sz (show p < ps.length by omega)) (by decide) _)).mono (by omega))
  rw [eh] at e hc
  have hm0 : m' = 0 := by
    simp only [ev_tst, ev_op, ev_var, List.getElem?_cons_succ, List.getElem?_cons_zero, bind_ok, ev_c, v_neI, ev_toB, Res.ok.injEq] at hc
    have := hc.1
    simp at this
    omega
  subst hm0
  rw [wt.root, Rat.mul_one] at hf
  subst hf
  have hst : startD 5 [t, eT C, .int k0] = [some t, some (eT C), some (.int k0), none, none] := rfl
  rw [hst]
  simp only [ev_c, ev_var, ev_nil, ev_cons, ev_tup, ev_lst, ev_op, ev_tst, ev_toB, ev_tru, ev_andT, ev_orT, ev_notT, ev_andV, ev_orV, ev_notV, ev_neg, ev_ifE, ev_no, ev_so, ev_sl, ev_cb, ev_isi, ev_mt, ev_lr1, ev_gc, ev_gct, ev_call, ev_nx, ev_seq, ev_exp, ev_ret, ev_if, ev_set, ev_asg, ev_par, ev_gnm, ev_gsb, ev_gsnil, ev_gscons, ev_gtp, ev_yes, ev_retR_rt, bind_ok, List.getElem?_cons_zero, List.getElem?_cons_succ, List.set_cons_zero, List.set_cons_succ, List.length_cons, List.length_nil, Nat.reduceAdd, Nat.reduceLeDiff, if_true, gc_same, gct_same, v_truB, Sm.v_add, Sm.v_sub, isL_lst, decide_true, decide_false, Bool.not_true, Bool.not_false, Bool.false_eq_true, if_false, c_ONE_eq, e]
theorem e_mean (c : Clo h) (W : WF ps) (T : TreeD t ps) (H : CH ps C) (wt : WT ps C w) (hd : ∀ k p, ps[k]? = some (some p) → dp k = dp p + 1) (hd3 : ∀ k, dp k ≤ 3) {row : List Rat} (lr : row.length = ps.length) (zr : SzL 2 row) :
    m_mean [t, eT C, eR row] h = .ok (eQ (sm (fun k => w k * Vf row k) (List.range ps.length))) h ∧ Ok (sm (fun k => w k * Vf row k) (List.range ps.length)) := by
  have wl := W.len
  have zw : ∀ k, k < ps.length → Sz 16 (w k) := fun k l => (wt.sz W H hd k l).mono (by have := hd3 k; omega)
  have zz : SzL 18 ((List.range ps.length).map fun k => Vf row k * w k) := by
    intro q m
    obtain ⟨k, mk, rfl⟩ := List.mem_map.mp m
    rw [List.mem_range] at mk
    exact sz_mul (sz_Vf zr (by decide) k) (zw k mk)
  have es : tot ((List.range ps.length).map fun k => Vf row k * w k) = sm (fun k => w k * Vf row k) (List.range ps.length) := by
    show sm (fun k => Vf row k * w k) _ = _
    exact sm_congr fun k _ => by grind
  refine ⟨?_, by rw [← es]; exact (sz_tot zz).mono (by simp; omega)⟩
  unfold m_mean mOf b_mean
  have e1 : cLen [eR row] h = .ok (.int ps.length) h := by rw [v_lenM (d := eR row) (e := eQ) (xs := row) sqn_t, lr]
  have e2 := fLc_rg (own := [3]) (fa := fCB cLen (fCons (fVar 2) fNil)) (tgt := gNm 3) (elt := fGc (fCall 2 m_times (fCons (fOp dIx (fVar 2) (fVar 3)) (fCons (fGc (fCall 3 m_chance (fCons (fVar 0) (fCons (fVar 1) (fCons (fVar 3) fNil))))) fNil)))) (σ := [some t, some (eT C), some (eR row), none]) (h := h) (n := ps.length) (by simp only [ev_c, ev_var, ev_nil, ev_cons, ev_tup, ev_lst, ev_op, ev_tst, ev_toB, ev_tru, ev_andT, ev_orT, ev_notT, ev_andV, ev_orV, ev_notV, ev_neg, ev_ifE, ev_no, ev_so, ev_sl, ev_cb, ev_isi, ev_mt, ev_lr1, ev_gc, ev_gct, ev_call, ev_nx, ev_seq, ev_exp, ev_ret, ev_if, ev_set, ev_asg, ev_par, ev_gnm, ev_gsb, ev_gsnil, ev_gscons, ev_gtp, ev_yes, ev_retR_rt, bind_ok, List.getElem?_cons_zero, List.getElem?_cons_succ, List.set_cons_zero, List.set_cons_succ, List.length_cons, List.length_nil, Nat.reduceAdd, Nat.reduceLeDiff, if_true, gc_same, gct_same, v_truB, Sm.v_add, Sm.v_sub, isL_lst, decide_true, decide_false, Bool.not_true, Bool.not_false, Bool.false_eq_true, if_false, e1]) (by omega) (fun k => eQ (Vf row k * w k)) (by
    intro k hk
    refine ⟨_, rfl, ?_⟩
    simp only [wipeD, ev_c, ev_var, ev_nil, ev_cons, ev_tup, ev_lst, ev_op, ev_tst, ev_toB, ev_tru, ev_andT, ev_orT, ev_notT, ev_andV, ev_orV, ev_notV, ev_neg, ev_ifE, ev_no, ev_so, ev_sl, ev_cb, ev_isi, ev_mt, ev_lr1, ev_gc, ev_gct, ev_call, ev_nx, ev_seq, ev_exp, ev_ret, ev_if, ev_set, ev_asg, ev_par, ev_gnm, ev_gsb, ev_gsnil, ev_gscons, ev_gtp, ev_yes, ev_retR_rt, bind_ok, List.getElem?_cons_zero, List.getElem?_cons_succ, List.set_cons_zero, List.set_cons_succ, List.length_cons, List.length_nil, Nat.reduceAdd, Nat.reduceLeDiff, if_true, gc_same, gct_same, v_truB, Sm.v_add, Sm.v_sub, isL_lst, decide_true, decide_false, Bool.not_true, Bool.not_false, Bool.false_eq_true, if_false, v_ixR (show k < row.length by omega), e_chance c W T H wt hd hd3 hk, e_times (ok_Vf zr (by decide) k) ((zw k hk).mono (by decide))])
  have em : (List.range ps.length).map (fun k => eQ (Vf row k * w k)) = ((List.range ps.length).map fun k => Vf row k * w k).map eQ := by simp
  rw [em] at e2
  have e3 : m_total [.lst h.length] (h ++ [.lst (((List.range ps.length).map fun k => Vf row k * w k).map eQ)]) = .ok (eQ (sm (fun k => w k * Vf row k) (List.range ps.length))) (h ++ [.lst (((List.range ps.length).map fun k => Vf row k * w k).map eQ)]) := by
    rw [← es]; exact e_total sqn_new zz (by simp; omega)
  have hst : startD 4 [t, eT C, eR row] = [some t, some (eT C), some (eR row), none] := rfl
  rw [hst]
  simp only [ev_c, ev_var, ev_nil, ev_cons, ev_tup, ev_lst, ev_op, ev_tst, ev_toB, ev_tru, ev_andT, ev_orT, ev_notT, ev_andV, ev_orV, ev_notV, ev_neg, ev_ifE, ev_no, ev_so, ev_sl, ev_cb, ev_isi, ev_mt, ev_lr1, ev_gc, ev_gct, ev_call, ev_nx, ev_seq, ev_exp, ev_ret, ev_if, ev_set, ev_asg, ev_par, ev_gnm, ev_gsb, ev_gsnil, ev_gscons, ev_gtp, ev_yes, ev_retR_rt, bind_ok, List.getElem?_cons_zero, List.getElem?_cons_succ, List.set_cons_zero, List.set_cons_succ, List.length_cons, List.length_nil, Nat.reduceAdd, Nat.reduceLeDiff, if_true, gc_same, gct_same, v_truB, Sm.v_add, Sm.v_sub, isL_lst, decide_true, decide_false, Bool.not_true, Bool.not_false, Bool.false_eq_true, if_false, e2, gc_np c (eQs_pu _), e3, gc_dp c (eQ_pu _)]
theorem e_share_of (c : Clo h) (W : WF ps) (T : TreeD t ps) (H : CH ps C) (wt : WT ps C w) (hd : ∀ k p, ps[k]? = some (some p) → dp k = dp p + 1) (hd3 : ∀ k, dp k ≤ 3) {d : D} {ks : List Nat} (s : Sqn h d (ks.map eI)) (lk : ks.length ≤ 40) (hk : ∀ k ∈ ks, k < ps.length) :
    m_share_of [t, eT C, d] h = .ok (eQ (sm w ks)) h := by
  unfold m_share_of mOf b_share_of
  have zz : SzL 16 (ks.map w) := by
    intro q m
    obtain ⟨k, mk, rfl⟩ := List.mem_map.mp m
    exact (wt.sz W H hd k (hk k mk)).mono (by have := hd3 k; omega)
  have e2 := fLc_mpy (own := [3]) (fe := fVar 2) (tgt := gNm 3) (elt := fGc (fCall 3 m_chance (fCons (fVar 0) (fCons (fVar 1) (fCons (fVar 3) fNil))))) (σ := [some t, some (eT C), some d, none]) (h := h) (d := d) eI ks s (by simp) (by omega) (fun k => eQ (w k)) (by
    intro k mk
    refine ⟨_, rfl, ?_⟩
    simp only [wipeD, ev_c, ev_var, ev_nil, ev_cons, ev_tup, ev_lst, ev_op, ev_tst, ev_toB, ev_tru, ev_andT, ev_orT, ev_notT, ev_andV, ev_orV, ev_notV, ev_neg, ev_ifE, ev_no, ev_so, ev_sl, ev_cb, ev_isi, ev_mt, ev_lr1, ev_gc, ev_gct, ev_call, ev_nx, ev_seq, ev_exp, ev_ret, ev_if, ev_set, ev_asg, ev_par, ev_gnm, ev_gsb, ev_gsnil, ev_gscons, ev_gtp, ev_yes, ev_retR_rt, bind_ok, List.getElem?_cons_zero, List.getElem?_cons_succ, List.set_cons_zero, List.set_cons_succ, List.length_cons, List.length_nil, Nat.reduceAdd, Nat.reduceLeDiff, if_true, gc_same, gct_same, v_truB, Sm.v_add, Sm.v_sub, isL_lst, decide_true, decide_false, Bool.not_true, Bool.not_false, Bool.false_eq_true, if_false, eI, e_chance c W T H wt hd hd3 (hk k mk)])
  have em : ks.map (fun k => eQ (w k)) = (ks.map w).map eQ := by simp
  rw [em] at e2
  have e3 : m_total [.lst h.length] (h ++ [.lst ((ks.map w).map eQ)]) = .ok (eQ (sm w ks)) (h ++ [.lst ((ks.map w).map eQ)]) := e_total (qs := ks.map w) sqn_new zz (by simp; omega)
  have hst : startD 4 [t, eT C, d] = [some t, some (eT C), some d, none] := rfl
  rw [hst]
  simp only [ev_c, ev_var, ev_nil, ev_cons, ev_tup, ev_lst, ev_op, ev_tst, ev_toB, ev_tru, ev_andT, ev_orT, ev_notT, ev_andV, ev_orV, ev_notV, ev_neg, ev_ifE, ev_no, ev_so, ev_sl, ev_cb, ev_isi, ev_mt, ev_lr1, ev_gc, ev_gct, ev_call, ev_nx, ev_seq, ev_exp, ev_ret, ev_if, ev_set, ev_asg, ev_par, ev_gnm, ev_gsb, ev_gsnil, ev_gscons, ev_gtp, ev_yes, ev_retR_rt, bind_ok, List.getElem?_cons_zero, List.getElem?_cons_succ, List.set_cons_zero, List.set_cons_succ, List.length_cons, List.length_nil, Nat.reduceAdd, Nat.reduceLeDiff, if_true, gc_same, gct_same, v_truB, Sm.v_add, Sm.v_sub, isL_lst, decide_true, decide_false, Bool.not_true, Bool.not_false, Bool.false_eq_true, if_false, e2, gc_np c (eQs_pu _), e3, gc_dp c (eQ_pu _)]
end
end Lw

/-! k47_EC: what are chances, even ones. -/
namespace Lw
open PySem PySem.Spec PyProof.Rows L2 Sm Sq
theorem forGo_chk {chk : MH → Bool} {tgt : FG} {body : FS} {h : MH} (hc : chk h = true) (p : Nat → Bool) (J : Sg → Prop) (r : D) : ∀ (ks : List Nat) (σ : Sg), J σ →
    (∀ k ∈ ks, ∀ σ, J σ → ∃ σ1, tgt (.int k) σ h = .ok σ1 h ∧ J σ1 ∧ body σ1 h = if p k = true then .ok (.nx σ1) h else .ok (.rt r) h) →
    (ks.all p = true → ∃ σ', forGo chk tgt body (ks.map fun k : Nat => D.int (k : Int)) σ h = .ok (.nx σ') h ∧ J σ') ∧ (ks.all p = false → forGo chk tgt body (ks.map fun k : Nat => D.int (k : Int)) σ h = .ok (.rt r) h)
  | [], σ, h0, _ => ⟨fun _ => ⟨σ, by rw [List.map_nil, forGo, if_pos hc], h0⟩, fun z => by simp at z⟩
  | k :: ks, σ, h0, hs => by
    obtain ⟨σ1, e1, j1, e2⟩ := hs k (List.mem_cons_self ..) σ h0
    have ih := forGo_chk (tgt := tgt) (body := body) hc p J r ks σ1 j1 fun k m => hs k (List.mem_cons_of_mem _ m)
    rw [List.map_cons, forGo, if_pos hc, e1, bind_ok, e2, List.all_cons]
    cases hp : p k with
    | true => rw [if_pos rfl, bind_ok, Bool.true_and]; exact ih
    | false => rw [if_neg (by simp), bind_ok, Bool.false_and]; exact ⟨fun z => by simp at z, fun _ => rfl⟩
section
variable {ps : List (Option Nat)} {C : List (List Rat)} {t : D} {h : MH}
def okn (ps : List (Option Nat)) (k : Nat) (qs : List Rat) : Bool := decide (qs.length = (kd ps k).length) && !(qs.any fun q => decide (q ≤ 0)) && (decide (kd ps k = []) || decide (tot qs = 1))
theorem tree_len (T : TreeD t ps) : ∃ nodes, dIx t (.int 2) h = .ok (.tup nodes) h ∧ cLen [.tup nodes] h = .ok (.int ps.length) h := by
  obtain ⟨nodes, e1, e2, _⟩ := T.nodes h
  exact ⟨nodes, e1, by rw [v_len_tup, e2]⟩
theorem e_are_chances (c : Clo h) (T : TreeD t ps) (l : ps.length ≤ 40) (hz : ∀ k, SzL 8 (cAt C k) ∧ (cAt C k).length ≤ 10) :
    m_are_chances [t, eT C] h = .ok (.bl (decide (C.length = ps.length) && (List.range ps.length).all fun k => okn ps k (cAt C k))) h := by
  unfold m_are_chances mOf b_are_chances
  obtain ⟨nodes, t1, t2⟩ := tree_len (h := h) T
  have hst : startD 4 [t, eT C] = [some t, some (eT C), none, none] := rfl
  rw [hst]
  have ht : isT (eT C) = true := rfl
  have el : cLen [eT C] h = .ok (.int C.length) h := v_lenM (d := eT C) (e := eR) (xs := C) sqn_t
  by_cases hl : C.length = ps.length
  · have hne : (!decide ((C.length : Int) = ps.length)) = false := by simp [hl]
    have key := forGo_chk (chk := fun h => (It'.vals ((List.range ps.length).map fun i : Nat => D.int (i : Int))).chk ((List.range ps.length).map fun i : Nat => D.int (i : Int)) h) (tgt := gNm 2) (body := (fSeq (fIf (fOrT (fNotT (fTru (fGc (fCall 2 m_are_parts (fCons (fOp dIx (fVar 1) (fVar 2)) (fCons (fGc (fCB cLen (fCons (fGc (fCall 2 m_ahead (fCons (fVar 0) (fCons (fVar 2) fNil)))) fNil))) fNil)))))) (fTru (fGc (fCB cAny (fCons (fGc (fLc [3] (iSeq (fOp dIx (fVar 1) (fVar 2))) (gNm 3) fYes (fOp dLe (fOp dIx (fVar 3) (fC (.int 0))) (fC (.int 0))))) fNil))))) (fRet (fC (.bl false))) fNx) (fIf (fAndT (fNotT (fTru (fGc (fCall 2 m_is_last (fCons (fVar 0) (fCons (fVar 2) fNil)))))) (fGcT (fTst (fOp dNe (fGc (fCall 1 m_total (fCons (fOp dIx (fVar 1) (fVar 2)) fNil))) (fC c_ONE))))) (fRet (fC (.bl false))) fNx))) (h := h) rfl (fun k => okn ps k (cAt C k)) (fun σ => ∃ z, σ = [some t, some (eT C), z, none]) (.bl false) (List.range ps.length) [some t, some (eT C), none, none] ⟨none, rfl⟩ (by
      rintro k mk σ ⟨z, rfl⟩
      rw [List.mem_range] at mk
      refine ⟨_, rfl, ⟨some (.int k), rfl⟩, ?_⟩
      have zk := hz k
      have i1 : dIx (eT C) (.int k) h = .ok (eR (cAt C k)) h := v_ixT (by omega)
      have a1 := e_ahead T (by omega) k c
      have a2 := len_ahead T (by omega) k c
      have a3 : m_are_parts [eR (cAt C k), .int (kd ps k).length] h = .ok (.bl (decide ((cAt C k).length = (kd ps k).length))) h := e_are_parts c (by omega)
      have a4 := fLc_mpy (own := [3]) (fe := fOp dIx (fVar 1) (fVar 2)) (tgt := gNm 3) (elt := fOp dLe (fOp dIx (fVar 3) (fC (.int 0))) (fC (.int 0))) (σ := [some t, some (eT C), some (.int k), none]) (h := h) (d := eR (cAt C k)) eQ (cAt C k) sqn_t (by simp only [ev_c, ev_var, ev_nil, ev_cons, ev_tup, ev_lst, ev_op, ev_tst, ev_toB, ev_tru, ev_andT, ev_orT, ev_notT, ev_andV, ev_orV, ev_notV, ev_neg, ev_ifE, ev_no, ev_so, ev_sl, ev_cb, ev_isi, ev_mt, ev_lr1, ev_gc, ev_gct, ev_call, ev_nx, ev_seq, ev_exp, ev_ret, ev_if, ev_set, ev_asg, ev_par, ev_gnm, ev_gsb, ev_gsnil, ev_gscons, ev_gtp, ev_yes, ev_retR_rt, bind_ok, List.getElem?_cons_zero, List.getElem?_cons_succ, List.set_cons_zero, List.set_cons_succ, List.length_cons, List.length_nil, Nat.reduceAdd, Nat.reduceLeDiff, if_true, gc_same, gct_same, v_truB, Sm.v_add, Sm.v_sub, isL_lst, decide_true, decide_false, Bool.not_true, Bool.not_false, Bool.false_eq_true, if_false, i1]) (by omega) (fun q => .bl (decide (q ≤ 0))) (by
        intro q _
        exact ⟨_, rfl, by simp only [wipeD, ev_c, ev_var, ev_nil, ev_cons, ev_tup, ev_lst, ev_op, ev_tst, ev_toB, ev_tru, ev_andT, ev_orT, ev_notT, ev_andV, ev_orV, ev_notV, ev_neg, ev_ifE, ev_no, ev_so, ev_sl, ev_cb, ev_isi, ev_mt, ev_lr1, ev_gc, ev_gct, ev_call, ev_nx, ev_seq, ev_exp, ev_ret, ev_if, ev_set, ev_asg, ev_par, ev_gnm, ev_gsb, ev_gsnil, ev_gscons, ev_gtp, ev_yes, ev_retR_rt, bind_ok, List.getElem?_cons_zero, List.getElem?_cons_succ, List.set_cons_zero, List.set_cons_succ, List.length_cons, List.length_nil, Nat.reduceAdd, Nat.reduceLeDiff, if_true, gc_same, gct_same, v_truB, Sm.v_add, Sm.v_sub, isL_lst, decide_true, decide_false, Bool.not_true, Bool.not_false, Bool.false_eq_true, if_false, v_pn, dLe, v_cmpI, num_nonpos_iff]⟩)
      rw [any_bl] at a4
      have a5 := any_gc c (bs := (cAt C k).map fun q => decide (q ≤ 0))
      rw [anyId] at a5
      have a6 := e_is_last T (by omega) k c
      have a7 : m_total [eR (cAt C k)] h = .ok (eQ (tot (cAt C k))) h := e_total (b := 8) sqn_t zk.1 (by omega)
      unfold okn
      simp only [ev_c, ev_var, ev_nil, ev_cons, ev_tup, ev_lst, ev_op, ev_tst, ev_toB, ev_tru, ev_andT, ev_orT, ev_notT, ev_andV, ev_orV, ev_notV, ev_neg, ev_ifE, ev_no, ev_so, ev_sl, ev_cb, ev_isi, ev_mt, ev_lr1, ev_gc, ev_gct, ev_call, ev_nx, ev_seq, ev_exp, ev_ret, ev_if, ev_set, ev_asg, ev_par, ev_gnm, ev_gsb, ev_gsnil, ev_gscons, ev_gtp, ev_yes, ev_retR_rt, bind_ok, List.getElem?_cons_zero, List.getElem?_cons_succ, List.set_cons_zero, List.set_cons_succ, List.length_cons, List.length_nil, Nat.reduceAdd, Nat.reduceLeDiff, if_true, gc_same, gct_same, v_truB, Sm.v_add, Sm.v_sub, isL_lst, decide_true, decide_false, Bool.not_true, Bool.not_false, Bool.false_eq_true, if_false, i1, a1, gc_np c (eIs_pu _), a2, a3]
      by_cases h1 : (cAt C k).length = (kd ps k).length
      · rw [decide_eq_true h1]
        simp only [ev_c, ev_var, ev_nil, ev_cons, ev_tup, ev_lst, ev_op, ev_tst, ev_toB, ev_tru, ev_andT, ev_orT, ev_notT, ev_andV, ev_orV, ev_notV, ev_neg, ev_ifE, ev_no, ev_so, ev_sl, ev_cb, ev_isi, ev_mt, ev_lr1, ev_gc, ev_gct, ev_call, ev_nx, ev_seq, ev_exp, ev_ret, ev_if, ev_set, ev_asg, ev_par, ev_gnm, ev_gsb, ev_gsnil, ev_gscons, ev_gtp, ev_yes, ev_retR_rt, bind_ok, List.getElem?_cons_zero, List.getElem?_cons_succ, List.set_cons_zero, List.set_cons_succ, List.length_cons, List.length_nil, Nat.reduceAdd, Nat.reduceLeDiff, if_true, gc_same, gct_same, v_truB, Sm.v_add, Sm.v_sub, isL_lst, decide_true, decide_false, Bool.not_true, Bool.not_false, Bool.false_eq_true, if_false, i1, a4, gc_np c (bls_pu _), a5, Bool.true_and]
        cases h2 : (cAt C k).any fun q => decide (q ≤ 0) with
        | true => simp only [ev_c, ev_var, ev_nil, ev_cons, ev_tup, ev_lst, ev_op, ev_tst, ev_toB, ev_tru, ev_andT, ev_orT, ev_notT, ev_andV, ev_orV, ev_notV, ev_neg, ev_ifE, ev_no, ev_so, ev_sl, ev_cb, ev_isi, ev_mt, ev_lr1, ev_gc, ev_gct, ev_call, ev_nx, ev_seq, ev_exp, ev_ret, ev_if, ev_set, ev_asg, ev_par, ev_gnm, ev_gsb, ev_gsnil, ev_gscons, ev_gtp, ev_yes, ev_retR_rt, bind_ok, List.getElem?_cons_zero, List.getElem?_cons_succ, List.set_cons_zero, List.set_cons_succ, List.length_cons, List.length_nil, Nat.reduceAdd, Nat.reduceLeDiff, if_true, gc_same, gct_same, v_truB, Sm.v_add, Sm.v_sub, isL_lst, decide_true, decide_false, Bool.not_true, Bool.not_false, Bool.false_eq_true, if_false, Bool.false_and]
        | false =>
          simp only [ev_c, ev_var, ev_nil, ev_cons, ev_tup, ev_lst, ev_op, ev_tst, ev_toB, ev_tru, ev_andT, ev_orT, ev_notT, ev_andV, ev_orV, ev_notV, ev_neg, ev_ifE, ev_no, ev_so, ev_sl, ev_cb, ev_isi, ev_mt, ev_lr1, ev_gc, ev_gct, ev_call, ev_nx, ev_seq, ev_exp, ev_ret, ev_if, ev_set, ev_asg, ev_par, ev_gnm, ev_gsb, ev_gsnil, ev_gscons, ev_gtp, ev_yes, ev_retR_rt, bind_ok, List.getElem?_cons_zero, List.getElem?_cons_succ, List.set_cons_zero, List.set_cons_succ, List.length_cons, List.length_nil, Nat.reduceAdd, Nat.reduceLeDiff, if_true, gc_same, gct_same, v_truB, Sm.v_add, Sm.v_sub, isL_lst, decide_true, decide_false, Bool.not_true, Bool.not_false, Bool.false_eq_true, if_false, i1, a6, Bool.true_and]
          by_cases h3 : kd ps k = []
          · rw [decide_eq_true h3]
            simp only [ev_c, ev_var, ev_nil, ev_cons, ev_tup, ev_lst, ev_op, ev_tst, ev_toB, ev_tru, ev_andT, ev_orT, ev_notT, ev_andV, ev_orV, ev_notV, ev_neg, ev_ifE, ev_no, ev_so, ev_sl, ev_cb, ev_isi, ev_mt, ev_lr1, ev_gc, ev_gct, ev_call, ev_nx, ev_seq, ev_exp, ev_ret, ev_if, ev_set, ev_asg, ev_par, ev_gnm, ev_gsb, ev_gsnil, ev_gscons, ev_gtp, ev_yes, ev_retR_rt, bind_ok, List.getElem?_cons_zero, List.getElem?_cons_succ, List.set_cons_zero, List.set_cons_succ, List.length_cons, List.length_nil, Nat.reduceAdd, Nat.reduceLeDiff, if_true, gc_same, gct_same, v_truB, Sm.v_add, Sm.v_sub, isL_lst, decide_true, decide_false, Bool.not_true, Bool.not_false, Bool.false_eq_true, if_false, Bool.true_or]
          · rw [decide_eq_false h3]
            simp only [ev_c, ev_var, ev_nil, ev_cons, ev_tup, ev_lst, ev_op, ev_tst, ev_toB, ev_tru, ev_andT, ev_orT, ev_notT, ev_andV, ev_orV, ev_notV, ev_neg, ev_ifE, ev_no, ev_so, ev_sl, ev_cb, ev_isi, ev_mt, ev_lr1, ev_gc, ev_gct, ev_call, ev_nx, ev_seq, ev_exp, ev_ret, ev_if, ev_set, ev_asg, ev_par, ev_gnm, ev_gsb, ev_gsnil, ev_gscons, ev_gtp, ev_yes, ev_retR_rt, bind_ok, List.getElem?_cons_zero, List.getElem?_cons_succ, List.set_cons_zero, List.set_cons_succ, List.length_cons, List.length_nil, Nat.reduceAdd, Nat.reduceLeDiff, if_true, gc_same, gct_same, v_truB, Sm.v_add, Sm.v_sub, isL_lst, decide_true, decide_false, Bool.not_true, Bool.not_false, Bool.false_eq_true, if_false, i1, a7, c_ONE_eq, ne_eQ, Bool.false_or]
            by_cases h4 : tot (cAt C k) = 1
            · rw [decide_eq_true h4]
              simp only [ev_c, ev_var, ev_nil, ev_cons, ev_tup, ev_lst, ev_op, ev_tst, ev_toB, ev_tru, ev_andT, ev_orT, ev_notT, ev_andV, ev_orV, ev_notV, ev_neg, ev_ifE, ev_no, ev_so, ev_sl, ev_cb, ev_isi, ev_mt, ev_lr1, ev_gc, ev_gct, ev_call, ev_nx, ev_seq, ev_exp, ev_ret, ev_if, ev_set, ev_asg, ev_par, ev_gnm, ev_gsb, ev_gsnil, ev_gscons, ev_gtp, ev_yes, ev_retR_rt, bind_ok, List.getElem?_cons_zero, List.getElem?_cons_succ, List.set_cons_zero, List.set_cons_succ, List.length_cons, List.length_nil, Nat.reduceAdd, Nat.reduceLeDiff, if_true, gc_same, gct_same, v_truB, Sm.v_add, Sm.v_sub, isL_lst, decide_true, decide_false, Bool.not_true, Bool.not_false, Bool.false_eq_true, if_false]
            · rw [decide_eq_false h4]
              simp only [ev_c, ev_var, ev_nil, ev_cons, ev_tup, ev_lst, ev_op, ev_tst, ev_toB, ev_tru, ev_andT, ev_orT, ev_notT, ev_andV, ev_orV, ev_notV, ev_neg, ev_ifE, ev_no, ev_so, ev_sl, ev_cb, ev_isi, ev_mt, ev_lr1, ev_gc, ev_gct, ev_call, ev_nx, ev_seq, ev_exp, ev_ret, ev_if, ev_set, ev_asg, ev_par, ev_gnm, ev_gsb, ev_gsnil, ev_gscons, ev_gtp, ev_yes, ev_retR_rt, bind_ok, List.getElem?_cons_zero, List.getElem?_cons_succ, List.set_cons_zero, List.set_cons_succ, List.length_cons, List.length_nil, Nat.reduceAdd, Nat.reduceLeDiff, if_true, gc_same, gct_same, v_truB, Sm.v_add, Sm.v_sub, isL_lst, decide_true, decide_false, Bool.not_true, Bool.not_false, Bool.false_eq_true, if_false]
      · rw [decide_eq_false h1]
        simp only [ev_c, ev_var, ev_nil, ev_cons, ev_tup, ev_lst, ev_op, ev_tst, ev_toB, ev_tru, ev_andT, ev_orT, ev_notT, ev_andV, ev_orV, ev_notV, ev_neg, ev_ifE, ev_no, ev_so, ev_sl, ev_cb, ev_isi, ev_mt, ev_lr1, ev_gc, ev_gct, ev_call, ev_nx, ev_seq, ev_exp, ev_ret, ev_if, ev_set, ev_asg, ev_par, ev_gnm, ev_gsb, ev_gsnil, ev_gscons, ev_gtp, ev_yes, ev_retR_rt, bind_ok, List.getElem?_cons_zero, List.getElem?_cons_succ, List.set_cons_zero, List.set_cons_succ, List.length_cons, List.length_nil, Nat.reduceAdd, Nat.reduceLeDiff, if_true, gc_same, gct_same, v_truB, Sm.v_add, Sm.v_sub, isL_lst, decide_true, decide_false, Bool.not_true, Bool.not_false, Bool.false_eq_true, if_false, Bool.false_and])
    have ei : iRg1 (fCB cLen (fCons (fVar 1) fNil)) [some t, some (eT C), none, none] h = .ok (.vals ((List.range ps.length).map fun i : Nat => D.int (i : Int))) h := iRg1_eq (by simp only [ev_c, ev_var, ev_nil, ev_cons, ev_tup, ev_lst, ev_op, ev_tst, ev_toB, ev_tru, ev_andT, ev_orT, ev_notT, ev_andV, ev_orV, ev_notV, ev_neg, ev_ifE, ev_no, ev_so, ev_sl, ev_cb, ev_isi, ev_mt, ev_lr1, ev_gc, ev_gct, ev_call, ev_nx, ev_seq, ev_exp, ev_ret, ev_if, ev_set, ev_asg, ev_par, ev_gnm, ev_gsb, ev_gsnil, ev_gscons, ev_gtp, ev_yes, ev_retR_rt, bind_ok, List.getElem?_cons_zero, List.getElem?_cons_succ, List.set_cons_zero, List.set_cons_succ, List.length_cons, List.length_nil, Nat.reduceAdd, Nat.reduceLeDiff, if_true, gc_same, gct_same, v_truB, Sm.v_add, Sm.v_sub, isL_lst, decide_true, decide_false, Bool.not_true, Bool.not_false, Bool.false_eq_true, if_false, el, hl]) (by omega)
    rw [decide_eq_true hl, Bool.true_and]
    cases ha : (List.range ps.length).all fun k => okn ps k (cAt C k) with
    | true =>
      obtain ⟨σ', e, z, rfl⟩ := key.1 ha
      simp only [ev_c, ev_var, ev_nil, ev_cons, ev_tup, ev_lst, ev_op, ev_tst, ev_toB, ev_tru, ev_andT, ev_orT, ev_notT, ev_andV, ev_orV, ev_notV, ev_neg, ev_ifE, ev_no, ev_so, ev_sl, ev_cb, ev_isi, ev_mt, ev_lr1, ev_gc, ev_gct, ev_call, ev_nx, ev_seq, ev_exp, ev_ret, ev_if, ev_set, ev_asg, ev_par, ev_gnm, ev_gsb, ev_gsnil, ev_gscons, ev_gtp, ev_yes, ev_retR_rt, bind_ok, List.getElem?_cons_zero, List.getElem?_cons_succ, List.set_cons_zero, List.set_cons_succ, List.length_cons, List.length_nil, Nat.reduceAdd, Nat.reduceLeDiff, if_true, gc_same, gct_same, v_truB, Sm.v_add, Sm.v_sub, isL_lst, decide_true, decide_false, Bool.not_true, Bool.not_false, Bool.false_eq_true, if_false, kb_tup, ht, el, t1, t2, v_neI, hne, fFor_eq ei rfl, e]
    | false =>
      have e := key.2 ha
      simp only [ev_c, ev_var, ev_nil, ev_cons, ev_tup, ev_lst, ev_op, ev_tst, ev_toB, ev_tru, ev_andT, ev_orT, ev_notT, ev_andV, ev_orV, ev_notV, ev_neg, ev_ifE, ev_no, ev_so, ev_sl, ev_cb, ev_isi, ev_mt, ev_lr1, ev_gc, ev_gct, ev_call, ev_nx, ev_seq, ev_exp, ev_ret, ev_if, ev_set, ev_asg, ev_par, ev_gnm, ev_gsb, ev_gsnil, ev_gscons, ev_gtp, ev_yes, ev_retR_rt, bind_ok, List.getElem?_cons_zero, List.getElem?_cons_succ, List.set_cons_zero, List.set_cons_succ, List.length_cons, List.length_nil, Nat.reduceAdd, Nat.reduceLeDiff, if_true, gc_same, gct_same, v_truB, Sm.v_add, Sm.v_sub, isL_lst, decide_true, decide_false, Bool.not_true, Bool.not_false, Bool.false_eq_true, if_false, kb_tup, ht, el, t1, t2, v_neI, hne, fFor_eq ei rfl, e]
  · have hne : (!decide ((C.length : Int) = ps.length)) = true := by
      rw [decide_eq_false (by omega)]; rfl
    rw [decide_eq_false hl, Bool.false_and]
    simp only [ev_c, ev_var, ev_nil, ev_cons, ev_tup, ev_lst, ev_op, ev_tst, ev_toB, ev_tru, ev_andT, ev_orT, ev_notT, ev_andV, ev_orV, ev_notV, ev_neg, ev_ifE, ev_no, ev_so, ev_sl, ev_cb, ev_isi, ev_mt, ev_lr1, ev_gc, ev_gct, ev_call, ev_nx, ev_seq, ev_exp, ev_ret, ev_if, ev_set, ev_asg, ev_par, ev_gnm, ev_gsb, ev_gsnil, ev_gscons, ev_gtp, ev_yes, ev_retR_rt, bind_ok, List.getElem?_cons_zero, List.getElem?_cons_succ, List.set_cons_zero, List.set_cons_succ, List.length_cons, List.length_nil, Nat.reduceAdd, Nat.reduceLeDiff, if_true, gc_same, gct_same, v_truB, Sm.v_add, Sm.v_sub, isL_lst, decide_true, decide_false, Bool.not_true, Bool.not_false, Bool.false_eq_true, if_false, kb_tup, ht, el, t1, t2, v_neI, hne]
theorem e_are_chancesN {d : D} (hd : isT d = false) : m_are_chances [t, d] h = .ok (.bl false) h := by
  unfold m_are_chances mOf b_are_chances
  have hst : startD 4 [t, d] = [some t, some d, none, none] := rfl
  rw [hst]
  simp only [ev_c, ev_var, ev_nil, ev_cons, ev_tup, ev_lst, ev_op, ev_tst, ev_toB, ev_tru, ev_andT, ev_orT, ev_notT, ev_andV, ev_orV, ev_notV, ev_neg, ev_ifE, ev_no, ev_so, ev_sl, ev_cb, ev_isi, ev_mt, ev_lr1, ev_gc, ev_gct, ev_call, ev_nx, ev_seq, ev_exp, ev_ret, ev_if, ev_set, ev_asg, ev_par, ev_gnm, ev_gsb, ev_gsnil, ev_gscons, ev_gtp, ev_yes, ev_retR_rt, bind_ok, List.getElem?_cons_zero, List.getElem?_cons_succ, List.set_cons_zero, List.set_cons_succ, List.length_cons, List.length_nil, Nat.reduceAdd, Nat.reduceLeDiff, if_true, gc_same, gct_same, v_truB, Sm.v_add, Sm.v_sub, isL_lst, decide_true, decide_false, Bool.not_true, Bool.not_false, Bool.false_eq_true, if_false, kb_tup, hd]
theorem CH.ok (H : CH ps C) : (decide (C.length = ps.length) && (List.range ps.length).all fun k => okn ps k (cAt C k)) = true := by
  rw [decide_eq_true H.len, Bool.true_and, List.all_eq_true]
  intro k m
  rw [List.mem_range] at m
  unfold okn
  by_cases h : kd ps k = []
  · rw [H.none k m h, h]; simp
  · have := H.some k m h
    rw [decide_eq_true this.1, decide_eq_true this.2.2.2]
    have h0 : ((cAt C k).any fun q => decide (q ≤ 0)) = false := by
      rw [List.any_eq_false]
      intro q mq
      have := this.2.2.1 q mq
      simp
      grind
    rw [h0]; simp
theorem CH.szs (W : WF ps) (H : CH ps C) (k : Nat) : SzL 8 (cAt C k) ∧ (cAt C k).length ≤ 10 := by
  by_cases l : k < ps.length
  · refine ⟨(H.sz l).mono (by decide), ?_⟩
    by_cases h : kd ps k = []
    · rw [H.none k l h]; simp
    · rw [(H.some k l h).1]; have := W.few k; omega
  · have : cAt C k = [] := by unfold cAt; rw [List.getElem?_eq_none (by rw [H.len]; omega)]; rfl
    rw [this]; exact ⟨(fun q m => by cases m), by simp⟩
/-- one row that fails -/
theorem notok {k : Nat} (l : k < ps.length) (h : okn ps k (cAt C k) = false) : (decide (C.length = ps.length) && (List.range ps.length).all fun k => okn ps k (cAt C k)) = false := by
  have : ((List.range ps.length).all fun k => okn ps k (cAt C k)) = false := by
    rw [List.all_eq_false]
    exact ⟨k, List.mem_range.mpr l, by simp [h]⟩
  rw [this, Bool.and_false]
theorem notlen (h : C.length ≠ ps.length) : (decide (C.length = ps.length) && (List.range ps.length).all fun k => okn ps k (cAt C k)) = false := by
  rw [decide_eq_false h, Bool.false_and]
theorem okn_len {k : Nat} {qs : List Rat} (h : qs.length ≠ (kd ps k).length) : okn ps k qs = false := by
  unfold okn; rw [decide_eq_false h]; simp
theorem okn_neg {k : Nat} {q : Rat} {qs : List Rat} (m : q ∈ qs) (h : q ≤ 0) : okn ps k qs = false := by
  unfold okn
  have : (qs.any fun q => decide (q ≤ 0)) = true := List.any_eq_true.mpr ⟨q, m, by simpa using h⟩
  rw [this]; simp
/-- even chances -/
def evn (ps : List (Option Nat)) : List (List Rat) := (List.range ps.length).map fun k => List.replicate (kd ps k).length (Q 1 (kd ps k).length)
theorem cAt_evn {k : Nat} (l : k < ps.length) : cAt (evn ps) k = List.replicate (kd ps k).length (Q 1 (kd ps k).length) := by
  unfold cAt evn; simp [l]
theorem tot_rep {n : Nat} {q : Rat} : tot (List.replicate n q) = n * q := by
  induction n with
  | zero => simp
  | succ n ih => rw [List.replicate_succ, tot_cons, ih]; push_cast; grind
theorem CH_evn (W : WF ps) : CH ps (evn ps) := by
  refine ⟨by simp [evn], fun k l h => by rw [cAt_evn l, h]; rfl, fun k l h => ?_⟩
  have hf := W.few k
  have hp : 0 < (kd ps k).length := List.length_pos_iff.mpr h
  rw [cAt_evn l]
  generalize (kd ps k).length = m at hf hp
  have h32 : (2 : Nat) ^ 5 = 32 := by decide
  have pm : (0 : Rat) < (m : Rat) := by exact_mod_cast hp
  have pm3 : (m : Rat) ≤ 3 := by exact_mod_cast hf
  have e : Q 1 m = 1 / (m : Rat) := by rw [Q, Rat.divInt_eq_div]; rfl
  refine ⟨by simp, fun q mq => ?_, fun q mq => ?_, ?_⟩
  · rw [List.eq_of_mem_replicate mq]
    exact sz_divInt (by omega) (by decide) (by omega)
  · rw [List.eq_of_mem_replicate mq, e]
    refine Rat.not_lt.mp fun z => ?_
    rw [Rat.div_lt_iff pm] at z
    grind
  · rw [tot_rep, e]; grind
theorem e_even (c : Clo h) (W : WF ps) (T : TreeD t ps) : m_even [t] h = .ok (eT (evn ps)) h := by
  unfold m_even mOf b_even
  have wl := W.len
  obtain ⟨nodes, t1, t2⟩ := tree_len (h := h) T
  have hst : startD 2 [t] = [some t, none] := rfl
  rw [hst]
  have e1 := fLc_rg (own := [1]) (fa := fCB cLen (fCons (fOp dIx (fVar 0) (fC (.int 2))) fNil)) (tgt := gNm 1) (elt := fGc (fOp dMul (fTup (fCons (fTup (fCons (fC (.int 1)) (fCons (fGc (fCB cLen (fCons (fGc (fCall 2 m_ahead (fCons (fVar 0) (fCons (fVar 1) fNil)))) fNil))) fNil))) fNil)) (fGc (fCB cLen (fCons (fGc (fCall 2 m_ahead (fCons (fVar 0) (fCons (fVar 1) fNil)))) fNil))))) (σ := [some t, none]) (h := h) (n := ps.length) (by simp only [ev_c, ev_var, ev_nil, ev_cons, ev_tup, ev_lst, ev_op, ev_tst, ev_toB, ev_tru, ev_andT, ev_orT, ev_notT, ev_andV, ev_orV, ev_notV, ev_neg, ev_ifE, ev_no, ev_so, ev_sl, ev_cb, ev_isi, ev_mt, ev_lr1, ev_gc, ev_gct, ev_call, ev_nx, ev_seq, ev_exp, ev_ret, ev_if, ev_set, ev_asg, ev_par, ev_gnm, ev_gsb, ev_gsnil, ev_gscons, ev_gtp, ev_yes, ev_retR_rt, bind_ok, List.getElem?_cons_zero, List.getElem?_cons_succ, List.set_cons_zero, List.set_cons_succ, List.length_cons, List.length_nil, Nat.reduceAdd, Nat.reduceLeDiff, if_true, gc_same, gct_same, v_truB, Sm.v_add, Sm.v_sub, isL_lst, decide_true, decide_false, Bool.not_true, Bool.not_false, Bool.false_eq_true, if_false, t1, t2]) (by omega) (fun k => eR (List.replicate (kd ps k).length (Q 1 (kd ps k).length))) (by
    intro k hk
    refine ⟨_, rfl, ?_⟩
    have hf := W.few k
    have a1 := e_ahead T (by omega) k c
    have a2 := len_ahead T (by omega) k c
    have a3 : dMul (.tup [.tup [.int 1, .int (kd ps k).length]]) (.int (kd ps k).length) h = .ok (eR (List.replicate (kd ps k).length (Q 1 (kd ps k).length))) h := by
      simp only [dMul]
      rw [if_pos ⟨by omega, by omega, by simp⟩]
      unfold eR
      congr 2
      rw [Int.toNat_natCast, List.map_replicate]
      by_cases h0 : (kd ps k).length = 0
      · rw [h0]; rfl
      · rw [eQ_divInt (by omega), if_neg (by omega)]
        have : Int.gcd 1 ((kd ps k).length : Int) = 1 := by simp
        rw [this]
        have h2 : ((1 : Int) / (1 : Nat)) = 1 := by decide
        have h3 : ((((kd ps k).length : Int).natAbs : Int) / (1 : Nat)) = ((kd ps k).length : Int) := by simp
        rw [h2, h3]
        generalize D.tup [.int 1, .int ((kd ps k).length : Int)] = x
        generalize (kd ps k).length = n
        induction n with
        | zero => rfl
        | succ n ih => rw [List.replicate_succ, List.replicate_succ, List.flatten_cons, ih]; rfl
    simp only [wipeD, ev_c, ev_var, ev_nil, ev_cons, ev_tup, ev_lst, ev_op, ev_tst, ev_toB, ev_tru, ev_andT, ev_orT, ev_notT, ev_andV, ev_orV, ev_notV, ev_neg, ev_ifE, ev_no, ev_so, ev_sl, ev_cb, ev_isi, ev_mt, ev_lr1, ev_gc, ev_gct, ev_call, ev_nx, ev_seq, ev_exp, ev_ret, ev_if, ev_set, ev_asg, ev_par, ev_gnm, ev_gsb, ev_gsnil, ev_gscons, ev_gtp, ev_yes, ev_retR_rt, bind_ok, List.getElem?_cons_zero, List.getElem?_cons_succ, List.set_cons_zero, List.set_cons_succ, List.length_cons, List.length_nil, Nat.reduceAdd, Nat.reduceLeDiff, if_true, gc_same, gct_same, v_truB, Sm.v_add, Sm.v_sub, isL_lst, decide_true, decide_false, Bool.not_true, Bool.not_false, Bool.false_eq_true, if_false, a1, gc_np c (eIs_pu _), a2, a3])
  have em : (List.range ps.length).map (fun k => eR (List.replicate (kd ps k).length (Q 1 (kd ps k).length))) = (evn ps).map eR := by simp [evn]
  rw [em] at e1
  have hp : D.puL ((evn ps).map eR) = true := eT_pu (evn ps)
  have et : gcR h.length (cTup [.lst h.length] (h ++ [.lst ((evn ps).map eR)])) = .ok (eT (evn ps)) h := tup_gc c hp
  simp only [ev_c, ev_var, ev_nil, ev_cons, ev_tup, ev_lst, ev_op, ev_tst, ev_toB, ev_tru, ev_andT, ev_orT, ev_notT, ev_andV, ev_orV, ev_notV, ev_neg, ev_ifE, ev_no, ev_so, ev_sl, ev_cb, ev_isi, ev_mt, ev_lr1, ev_gc, ev_gct, ev_call, ev_nx, ev_seq, ev_exp, ev_ret, ev_if, ev_set, ev_asg, ev_par, ev_gnm, ev_gsb, ev_gsnil, ev_gscons, ev_gtp, ev_yes, ev_retR_rt, bind_ok, List.getElem?_cons_zero, List.getElem?_cons_succ, List.set_cons_zero, List.set_cons_succ, List.length_cons, List.length_nil, Nat.reduceAdd, Nat.reduceLeDiff, if_true, gc_same, gct_same, v_truB, Sm.v_add, Sm.v_sub, isL_lst, decide_true, decide_false, Bool.not_true, Bool.not_false, Bool.false_eq_true, if_false, e1, gc_np c hp, et]
end
end Lw

/-! k47_ED: worst costs, greatest sums. -/
namespace Lw
open PySem PySem.Spec PyProof.Rows L2 Sm Sq
/-! the costs as functions -/
noncomputable def cstF (ps : List (Option Nat)) (C : List (List Rat)) (s : Rat) (row : Nat → Rat) : Nat → Nat → Rat
  | 0, k => row k
  | d + 1, k => if kd ps k = [] then row k else row k + -(wvs ((kd ps k).map fun j => -(cstF ps C s row d j)) (cAt C k) s)
def mstF (ps : List (Option Nat)) (row : Nat → Rat) : Nat → Nat → Rat
  | 0, k => row k
  | d + 1, k => match kd ps k with
    | [] => row k
    | j :: js => row k + mxF (mstF ps row d j) (js.map (mstF ps row d))
section
variable {ps : List (Option Nat)} {C : List (List Rat)} {dp : Nat → Nat} {s : Rat} {row : Nat → Rat}
theorem deeper (hd : ∀ k p, ps[k]? = some (some p) → dp k = dp p + 1) (hd3 : ∀ k, dp k ≤ 3) {k : Nat} (h : kd ps k ≠ []) : 3 - dp k = 3 - (dp k + 1) + 1 := by
  obtain ⟨j, m⟩ := List.exists_mem_of_ne_nil _ h
  have := hd j _ (mem_kd.mp m)
  have := hd3 j
  omega
theorem cst_ok (hd : ∀ k p, ps[k]? = some (some p) → dp k = dp p + 1) (hd3 : ∀ k, dp k ≤ 3) : Cst' ps C s row fun k => cstF ps C s row (3 - dp k) k := by
  intro k l
  refine ⟨fun h => ?_, fun h => ?_⟩
  · show cstF ps C s row (3 - dp k) k = row k
    cases 3 - dp k with
    | zero => rfl
    | succ d => rw [cstF, if_pos h]
  · show cstF ps C s row (3 - dp k) k = row k + -(wvs ((kd ps k).map fun j => -(cstF ps C s row (3 - dp j) j)) (cAt C k) s)
    rw [deeper hd hd3 h, cstF, if_neg h]
    congr 3
    apply List.map_congr_left
    intro j m
    rw [hd j k (mem_kd.mp m)]
theorem mst_ok (hd : ∀ k p, ps[k]? = some (some p) → dp k = dp p + 1) (hd3 : ∀ k, dp k ≤ 3) : Mst ps row fun k => mstF ps row (3 - dp k) k := by
  intro k l
  refine ⟨fun h => ?_, fun j js e => ?_⟩
  · show mstF ps row (3 - dp k) k = row k
    cases 3 - dp k with
    | zero => rfl
    | succ d => rw [mstF, h]
  · show mstF ps row (3 - dp k) k = row k + mxF (mstF ps row (3 - dp j) j) (js.map fun k => mstF ps row (3 - dp k) k)
    have hm : ∀ i ∈ j :: js, dp i = dp k + 1 := fun i m => hd i k (mem_kd.mp (by rw [e]; exact m))
    rw [deeper hd hd3 (by rw [e]; simp), mstF, e, hm j (List.mem_cons_self ..)]
    show row k + mxF (mstF ps row (3 - (dp k + 1)) j) (js.map (mstF ps row (3 - (dp k + 1)))) = _
    congr 2
    apply List.map_congr_left
    intro i m
    rw [hm i (List.mem_cons_of_mem _ m)]
theorem sz_wvs {vs cs : List Rat} {u : Nat} (zv : SzL u vs) (zc : SzL 5 cs) (zs : Sz 7 s) (s0 : 0 < s) (u1 : 1 ≤ u) (hu : u ≤ 3600) (l : vs.length ≤ 3) (hc : cs.length = vs.length) : Sz (3 * u + 160) (wvs vs cs s) := by
  have p := spl_srt (zv.mono (by omega)) (by omega)
  have z := (e_Lweights (h := []) (v := .tup (vs.map eQ)) (ch := eR cs) (A := 40) clo_nil sqn_t sqn_t hc zv zc zs s0 (by decide) u1 (by omega) (by omega) (by omega) p).2
  unfold wvs
  rw [← due_wv p.1]
  refine (sz_tot (sz_pro z zv)).mono ?_
  rw [len_pro (by rw [wl_len]; omega), wl_len]
  have := Nat.mul_le_mul_right (40 + 5 + 7 + u + 1) l
  omega
theorem cst_sz (W : WF ps) (H : CH ps C) (hd : ∀ k p, ps[k]? = some (some p) → dp k = dp p + 1) (hd3 : ∀ k, dp k ≤ 3) (zs : Sz 7 s) (s0 : 0 < s) (hr : ∀ k, Sz 2 (row k)) : ∀ d k, k < ps.length → d ≤ 3 → Sz (cz d) (cstF ps C s row d k)
  | 0, k, _, _ => hr k
  | d + 1, k, l, d3 => by
    rw [cstF]
    by_cases h : kd ps k = []
    · rw [if_pos h]; exact (hr k).mono cz_ge
    · rw [if_neg h]
      have hm : ∀ j ∈ kd ps k, Sz (cz d) (-(cstF ps C s row d j)) := fun j m => sz_neg (cst_sz W H hd hd3 zs s0 hr d j (List.getElem?_eq_some_iff.mp (mem_kd.mp m)).1 (by omega))
      have z : SzL (cz d) ((kd ps k).map fun j => -(cstF ps C s row d j)) := fun q m => by
        obtain ⟨j, mj, rfl⟩ := List.mem_map.mp m
        exact hm j mj
      have hw := sz_wvs (s := s) z (H.sz l) zs s0 (Nat.le_trans (by decide) cz_ge) (cz_le (by omega)) (by simpa using W.few k) (by rw [(H.some k l h).1]; simp)
      refine (sz_add (hr k) (sz_neg hw)).mono ?_
      show 2 + (3 * cz d + 160) + 1 ≤ 3 * cz d + 250
      omega
theorem mst_sz (hr : ∀ k, Sz 2 (row k)) : ∀ d k, Sz (2 + 3 * d) (mstF ps row d k)
  | 0, k => hr k
  | d + 1, k => by
    rw [mstF]
    split
    · exact (hr k).mono (by omega)
    · next j js e =>
      refine (sz_add (m := 2 + 3 * d) (hr k) ?_).mono (by omega)
      rcases mxF_mem (q := mstF ps row d j) (qs := js.map (mstF ps row d)) with h | h
      · rw [h]; exact mst_sz hr d j
      · obtain ⟨i, _, h⟩ := List.mem_map.mp h
        rw [← h]; exact mst_sz hr d i
end
/-- the walked row made on the way -/
theorem fLc_mpyH {α : Type} {own : List Nat} {fe : FE} {tgt : FG} {elt : FE} {σ : Sg} {h0 h : MH} {d : D} (e : α → D) (xs : List α) (s : Sqn h d (xs.map e)) (ee : fe σ h0 = .ok d h) (l : xs.length ≤ 1000000) (f : α → D)
    (hs : ∀ x ∈ xs, ∃ σ1, tgt (e x) (wipeD σ own) h = .ok σ1 h ∧ elt σ1 h = .ok (f x) h) : fLc own (iSeq fe) tgt fYes elt σ h0 = .ok (.lst h.length) (h ++ [.lst (xs.map f)]) := by
  obtain ⟨it, e1, e2, e3⟩ : ∃ it, iSeq fe σ h0 = .ok it h ∧ it.items h = some (xs.map e) ∧ it.chk (xs.map e) h = true := by
    rcases s with rfl | rfl | ⟨n, rfl, e'⟩
    · exact ⟨.vals _, by simp [iSeq, ee], rfl, rfl⟩
    · exact ⟨.vals _, by simp [iSeq, ee], rfl, rfl⟩
    · exact ⟨.lst n, by simp [iSeq, ee], items_lst e', chk_lst e'⟩
  rw [fLc_eq e1 e2 (by simpa using l), lcGo_mp (tst := fYes) e3 e (fun _ => true) f xs [] (fun x m => let ⟨σ1, a, b⟩ := hs x m; ⟨σ1, a, rfl, fun _ => b⟩), List.filter_eq_self.mpr fun _ _ => rfl]
  rfl
theorem gc_new1 {h : MH} {a : HE} {ds : List D} (c : Clo h) (p : D.puL ds = true) : gcR h.length (.ok (.lst (h ++ [a]).length) (h ++ [a] ++ [.lst ds])) = .ok (.lst h.length) (h ++ [.lst ds]) := by
  have := gc_new (h := h) (g := [a]) c (clL_pu h.length ds p)
  simpa using this
theorem clo_pur {h : MH} (c : Clo h) : ∀ {J : MH}, Pur J → Clo (h ++ J)
  | [], _ => by simpa using c
  | e :: J, hJ => by
    obtain ⟨ds, rfl, p⟩ := hJ e (List.mem_cons_self ..)
    have := clo_pur (clo1 c p) (J := J) fun x m => hJ x (List.mem_cons_of_mem _ m)
    simpa using this
section
variable {ps : List (Option Nat)} {C : List (List Rat)} {dp : Nat → Nat} {s : Rat} {rw' : List Rat} {t : D} {h : MH} {X : Nat → Rat}
theorem fd_all {Fd : List D} {n : Nat} (l : Fd.length = n) (hall : ∀ k, k < n → Fd[k]? = some (eQ (X k))) : Fd = ((List.range n).map X).map eQ := by
  apply List.ext_getElem?
  intro i
  by_cases hi : i < n
  · rw [hall i hi]; simp [hi]
  · rw [List.getElem?_eq_none (by omega), List.getElem?_eq_none (by simp; omega)]
theorem e_worst_costs (c : Clo h) (W : WF ps) (T : TreeD t ps) (H : CH ps C) (hd : ∀ k p, ps[k]? = some (some p) → dp k = dp p + 1) (hd3 : ∀ k, dp k ≤ 3) (zs : Sz 7 s) (s0 : 0 < s) (lr : rw'.length = ps.length) (zr : SzL 2 rw') (z : Szs ps dp X) (hX : Cst' ps C s (Vf rw') X) :
    m_worst_costs [t, eT C, eQ s, eR rw'] h = .ok (.lst h.length) (h ++ [.lst (((List.range ps.length).map X).map eQ)]) := by
  unfold m_worst_costs mOf b_worst_costs
  have wlen := W.len
  have hst : startD 8 [t, eT C, eQ s, eR rw'] = [some t, some (eT C), some (eQ s), some (eR rw'), none, none, none, none] := rfl
  rw [hst]
  obtain ⟨nodes, t1, t2⟩ := tree_len (h := h ++ [HE.lst [D.non]]) T
  have a1 : allocD [D.non] h = .ok (.lst h.length) (h ++ [.lst [D.non]]) := v_alloc (by simp)
  have a2 := rep_gc c (n := ps.length) (x := .non) (by omega) rfl
  obtain ⟨σ', h', e, Fd, J, z5, z6, rfl, rfl, hJ, hP, lF, hall⟩ := fFor_dn (fa := fOp dSub (fCB cLen (fCons (fOp dIx (fVar 0) (fC (.int 2))) fNil)) (fC (.int 1))) (tgt := gNm 5) (body := (fSeq (fAsg (fOp dIx (fVar 3) (fVar 5)) (gSb (fVar 4) (fVar 5))) (fIf (fNotT (fTru (fGc (fCall 2 m_is_last (fCons (fVar 0) (fCons (fVar 5) fNil)))))) (fSeq (fSet 6 (fGc (fLc [7] (iSeq (fGc (fCall 2 m_ahead (fCons (fVar 0) (fCons (fVar 5) fNil))))) (gNm 7) fYes (fGc (fCall 1 m_negative (fCons (fOp dIx (fVar 4) (fVar 7)) fNil)))))) (fAsg (fGc (fCall 2 m_plus (fCons (fOp dIx (fVar 3) (fVar 5)) (fCons (fGc (fCall 1 m_negative (fCons (fGc (fCall 3 m_worst (fCons (fVar 6) (fCons (fOp dIx (fVar 1) (fVar 5)) (fCons (fVar 2) fNil))))) fNil))) fNil)))) (gSb (fVar 4) (fVar 5)))) fNx)))
    (σ := [some t, some (eT C), some (eQ s), some (eR rw'), some (.lst h.length), none, none, none]) (h := h ++ [.lst (List.replicate ps.length .non)]) (n := ps.length) (by
      obtain ⟨nodes', t1', t2'⟩ := tree_len (h := h ++ [HE.lst (List.replicate ps.length .non)]) T
      simp only [ev_c, ev_var, ev_nil, ev_cons, ev_tup, ev_lst, ev_op, ev_tst, ev_toB, ev_tru, ev_andT, ev_orT, ev_notT, ev_andV, ev_orV, ev_notV, ev_neg, ev_ifE, ev_no, ev_so, ev_sl, ev_cb, ev_isi, ev_mt, ev_lr1, ev_gc, ev_gct, ev_call, ev_nx, ev_seq, ev_exp, ev_ret, ev_if, ev_set, ev_asg, ev_par, ev_gnm, ev_gsb, ev_gsnil, ev_gscons, ev_gtp, ev_yes, ev_retR_rt, bind_ok, List.getElem?_cons_zero, List.getElem?_cons_succ, List.set_cons_zero, List.set_cons_succ, List.length_cons, List.length_nil, Nat.reduceAdd, Nat.reduceLeDiff, if_true, gc_same, gct_same, v_truB, Sm.v_add, Sm.v_sub, isL_lst, decide_true, decide_false, Bool.not_true, Bool.not_false, Bool.false_eq_true, if_false, t1', t2']) (by omega)
    (fun j σ h' => ∃ Fd J z5 z6, σ = [some t, some (eT C), some (eQ s), some (eR rw'), some (.lst h.length), z5, z6, none] ∧ h' = h ++ (.lst Fd :: J) ∧ Pur J ∧ D.puL Fd = true ∧ Fd.length = ps.length ∧ ∀ k, ps.length - j ≤ k → k < ps.length → Fd[k]? = some (eQ (X k)))
    ⟨_, [], none, none, rfl, rfl, (fun e m => by cases m), (puL_iff _).mpr (fun d m => by rw [List.eq_of_mem_replicate m]; rfl), by simp, fun k h1 h2 => by omega⟩ (by
      rintro j σ _ hj ⟨Fd, J, z5, z6, rfl, rfl, hJ, hP, lF, hall⟩
      generalize hnode : ps.length - 1 - j = node
      have ln : node < ps.length := by omega
      have hk := hX node ln
      have gF : (h ++ (HE.lst Fd :: J))[h.length]? = some (.lst Fd) := get_0
      have i1 : ∀ H : MH, dIx (eR rw') (.int node) H = .ok (eQ (Vf rw' node)) H := fun H => v_ixR (by omega)
      have s1 : setD (.lst h.length) (.int node) (eQ (Vf rw' node)) (h ++ (.lst Fd :: J)) = .ok () (h ++ (.lst (Fd.set node (eQ (Vf rw' node))) :: J)) := by
        simp only [setD, gF, ixN_nat (show node < Fd.length by omega), set_a]
      have hP1 : D.puL (Fd.set node (eQ (Vf rw' node))) = true := set_pu hP (eQ_pu _)
      have hall1 : ∀ k, ps.length - j ≤ k → k < ps.length → (Fd.set node (eQ (Vf rw' node)))[k]? = some (eQ (X k)) := fun k h1 h2 => by
        rw [List.getElem?_set_ne (by omega)]; exact hall k h1 h2
      have lF1 : (Fd.set node (eQ (Vf rw' node))).length = ps.length := by simpa using lF
      generalize hF1 : Fd.set node (eQ (Vf rw' node)) = F1 at s1 hP1 hall1 lF1
      have pJ : Pur (.lst F1 :: J) := fun e m => by
        rcases List.mem_cons.mp m with rfl | m
        · exact ⟨_, rfl, hP1⟩
        · exact hJ e m
      have c1 : Clo (h ++ (.lst F1 :: J)) := clo_pur c pJ
      have a6 := e_is_last T (by omega) node c1
      by_cases hkn : kd ps node = []
      · rw [hkn, decide_eq_true rfl] at a6
        refine ⟨_, _, [some t, some (eT C), some (eQ s), some (eR rw'), some (.lst h.length), some (.int node), z6, none], h ++ (.lst F1 :: J), rfl, ?_, F1, J, some (.int node), z6, rfl, rfl, hJ, hP1, lF1, fun k h1 h2 => ?_⟩
        · simp only [ev_c, ev_var, ev_nil, ev_cons, ev_tup, ev_lst, ev_op, ev_tst, ev_toB, ev_tru, ev_andT, ev_orT, ev_notT, ev_andV, ev_orV, ev_notV, ev_neg, ev_ifE, ev_no, ev_so, ev_sl, ev_cb, ev_isi, ev_mt, ev_lr1, ev_gc, ev_gct, ev_call, ev_nx, ev_seq, ev_exp, ev_ret, ev_if, ev_set, ev_asg, ev_par, ev_gnm, ev_gsb, ev_gsnil, ev_gscons, ev_gtp, ev_yes, ev_retR_rt, bind_ok, List.getElem?_cons_zero, List.getElem?_cons_succ, List.set_cons_zero, List.set_cons_succ, List.length_cons, List.length_nil, Nat.reduceAdd, Nat.reduceLeDiff, if_true, gc_same, gct_same, v_truB, Sm.v_add, Sm.v_sub, isL_lst, decide_true, decide_false, Bool.not_true, Bool.not_false, Bool.false_eq_true, if_false, i1, s1, a6]
        · by_cases ek : k = node
          · subst ek
            rw [← hF1, List.getElem?_set_self (by omega), hk.1 hkn]
          · exact hall1 k (by omega) h2
      · rw [decide_eq_false hkn] at a6
        have b1 := e_ahead T (by omega) node c1
        have dz := deeper hd hd3 hkn
        have hf := W.few node
        have cz2 : cz (3 - (dp node + 1)) ≤ 1018 := Nat.le_trans (cz_mono (show 3 - (dp node + 1) ≤ 2 by omega)) (by decide)
        have b2 := fLc_mpyH (own := [7]) (fe := fGc (fCall 2 m_ahead (fCons (fVar 0) (fCons (fVar 5) fNil)))) (tgt := gNm 7) (elt := fGc (fCall 1 m_negative (fCons (fOp dIx (fVar 4) (fVar 7)) fNil))) (σ := [some t, some (eT C), some (eQ s), some (eR rw'), some (.lst h.length), some (.int node), z6, none]) (h0 := h ++ (.lst F1 :: J)) (h := h ++ (.lst F1 :: J) ++ [.lst ((kd ps node).map eI)]) (d := .lst (h ++ (HE.lst F1 :: J)).length) eI (kd ps node) sqn_new (by simp only [ev_c, ev_var, ev_nil, ev_cons, ev_tup, ev_lst, ev_op, ev_tst, ev_toB, ev_tru, ev_andT, ev_orT, ev_notT, ev_andV, ev_orV, ev_notV, ev_neg, ev_ifE, ev_no, ev_so, ev_sl, ev_cb, ev_isi, ev_mt, ev_lr1, ev_gc, ev_gct, ev_call, ev_nx, ev_seq, ev_exp, ev_ret, ev_if, ev_set, ev_asg, ev_par, ev_gnm, ev_gsb, ev_gsnil, ev_gscons, ev_gtp, ev_yes, ev_retR_rt, bind_ok, List.getElem?_cons_zero, List.getElem?_cons_succ, List.set_cons_zero, List.set_cons_succ, List.length_cons, List.length_nil, Nat.reduceAdd, Nat.reduceLeDiff, if_true, gc_same, gct_same, v_truB, Sm.v_add, Sm.v_sub, isL_lst, decide_true, decide_false, Bool.not_true, Bool.not_false, Bool.false_eq_true, if_false, b1, gc_np c1 (eIs_pu _)]) (by omega) (fun k => eQ (-X k)) (by
          intro k mk
          have e := mem_kd.mp mk
          have hb := W.back e
          have gF1 : (h ++ (HE.lst F1 :: J) ++ [HE.lst ((kd ps node).map eI)])[h.length]? = some (.lst F1) := by rw [List.append_assoc]; exact get_0
          have i2 : dIx (.lst h.length) (.int k) (h ++ (.lst F1 :: J) ++ [.lst ((kd ps node).map eI)]) = .ok (eQ (X k)) (h ++ (.lst F1 :: J) ++ [.lst ((kd ps node).map eI)]) := v_ix (dI_lst gF1) (atI_nat' (hall1 k (by omega) (List.getElem?_eq_some_iff.mp e).1))
          refine ⟨_, rfl, ?_⟩
          simp only [wipeD, ev_c, ev_var, ev_nil, ev_cons, ev_tup, ev_lst, ev_op, ev_tst, ev_toB, ev_tru, ev_andT, ev_orT, ev_notT, ev_andV, ev_orV, ev_notV, ev_neg, ev_ifE, ev_no, ev_so, ev_sl, ev_cb, ev_isi, ev_mt, ev_lr1, ev_gc, ev_gct, ev_call, ev_nx, ev_seq, ev_exp, ev_ret, ev_if, ev_set, ev_asg, ev_par, ev_gnm, ev_gsb, ev_gsnil, ev_gscons, ev_gtp, ev_yes, ev_retR_rt, bind_ok, List.getElem?_cons_zero, List.getElem?_cons_succ, List.set_cons_zero, List.set_cons_succ, List.length_cons, List.length_nil, Nat.reduceAdd, Nat.reduceLeDiff, if_true, gc_same, gct_same, v_truB, Sm.v_add, Sm.v_sub, isL_lst, decide_true, decide_false, Bool.not_true, Bool.not_false, Bool.false_eq_true, if_false, eI, i2, e_negative])
        have em : (kd ps node).map (fun k => eQ (-X k)) = ((kd ps node).map fun k => -X k).map eQ := by simp
        rw [em] at b2
        have c2 : Clo (h ++ (.lst F1 :: J) ++ [.lst (((kd ps node).map fun k => -X k).map eQ)]) := clo1 c1 (eQs_pu _)
        have zk := szs_kids W hd z (fun k => -X k) (fun k => .inr rfl) node
        have hp := spl_srt (zk.mono (Nat.le_trans cz2 (by decide))) (by simp; omega)
        have b3 := e_worst (A := 25) (a := 7) (b := 5) (u := cz (3 - (dp node + 1))) c2 (v := .lst (h ++ (HE.lst F1 :: J)).length) (ch := eR (cAt C node)) (cs := cAt C node) (vs := (kd ps node).map fun k => -X k) sqn_new sqn_t (by rw [(H.some node ln hkn).1]; simp) zk (H.sz ln) zs s0 (by decide) (by decide) (Nat.le_trans (by decide) cz_ge) (by rw [List.length_map]; omega) (by
          rw [List.length_map]
          have := Nat.mul_le_mul_right (25 + 5 + cz (3 - (dp node + 1)) + 1) hf
          omega) (by omega) hp
        have hx := hk.2 hkn
        have zx : Sz (cz (3 - dp node)) (X node) := z node ln
        have zx4 : cz (3 - dp node) ≤ 3600 := cz_le (by omega)
        have ow : Ok (-(wvs ((kd ps node).map fun k => -X k) (cAt C node) s)) := by
          have : -(wvs ((kd ps node).map fun k => -X k) (cAt C node) s) = X node - Vf rw' node := by rw [hx]; grind
          rw [this]
          exact (sz_sub zx (sz_Vf zr (by decide) node)).mono (by omega)
        have or : Ok (Vf rw' node) := ok_Vf zr (by decide) node
        have i3 : dIx (eT C) (.int node) (h ++ (.lst F1 :: J) ++ [.lst (((kd ps node).map fun k => -X k).map eQ)]) = .ok (eR (cAt C node)) (h ++ (.lst F1 :: J) ++ [.lst (((kd ps node).map fun k => -X k).map eQ)]) := v_ixT (by rw [H.len]; exact ln)
        have b4 := e_plus or ow (h ++ (.lst F1 :: J) ++ [.lst (((kd ps node).map fun k => -X k).map eQ)])
        rw [← hx] at b4
        have s2 : setD (.lst h.length) (.int node) (eQ (X node)) (h ++ (.lst F1 :: J) ++ [.lst (((kd ps node).map fun k => -X k).map eQ)]) = .ok () (h ++ (.lst (F1.set node (eQ (X node))) :: (J ++ [.lst (((kd ps node).map fun k => -X k).map eQ)]))) := by
          have : h ++ (HE.lst F1 :: J) ++ [HE.lst (((kd ps node).map fun k => -X k).map eQ)] = h ++ (.lst F1 :: (J ++ [.lst (((kd ps node).map fun k => -X k).map eQ)])) := by simp
          rw [this]
          simp only [setD, get_0, ixN_nat (show node < F1.length by omega), set_a]
        refine ⟨_, _, [some t, some (eT C), some (eQ s), some (eR rw'), some (.lst h.length), some (.int node), some (.lst (h ++ (HE.lst F1 :: J)).length), none], h ++ (.lst (F1.set node (eQ (X node))) :: (J ++ [.lst (((kd ps node).map fun k => -X k).map eQ)])), rfl, ?_, F1.set node (eQ (X node)), J ++ [.lst (((kd ps node).map fun k => -X k).map eQ)], some (.int node), some (.lst (h ++ (HE.lst F1 :: J)).length), rfl, rfl, hJ.push (eQs_pu _), set_pu hP1 (eQ_pu _), by simpa using lF1, fun k h1 h2 => ?_⟩
        · have b3' : m_worst [.lst (h ++ (HE.lst F1 :: J)).length, eR (cAt C node), eQ s] (h ++ (.lst F1 :: J) ++ [.lst (((kd ps node).map fun k => -X k).map eQ)]) = .ok (eQ (wvs ((kd ps node).map fun k => -X k) (cAt C node) s)) (h ++ (.lst F1 :: J) ++ [.lst (((kd ps node).map fun k => -X k).map eQ)]) := b3
          simp only [ev_c, ev_var, ev_nil, ev_cons, ev_tup, ev_lst, ev_op, ev_tst, ev_toB, ev_tru, ev_andT, ev_orT, ev_notT, ev_andV, ev_orV, ev_notV, ev_neg, ev_ifE, ev_no, ev_so, ev_sl, ev_cb, ev_isi, ev_mt, ev_lr1, ev_gc, ev_gct, ev_call, ev_nx, ev_seq, ev_exp, ev_ret, ev_if, ev_set, ev_asg, ev_par, ev_gnm, ev_gsb, ev_gsnil, ev_gscons, ev_gtp, ev_yes, ev_retR_rt, bind_ok, List.getElem?_cons_zero, List.getElem?_cons_succ, List.set_cons_zero, List.set_cons_succ, List.length_cons, List.length_nil, Nat.reduceAdd, Nat.reduceLeDiff, if_true, gc_same, gct_same, v_truB, Sm.v_add, Sm.v_sub, isL_lst, decide_true, decide_false, Bool.not_true, Bool.not_false, Bool.false_eq_true, if_false, i1, s1, a6, b2, gc_new1 c1 (eQs_pu _), i3, b3', e_negative, b4, s2]
        · by_cases ek : k = node
          · subst ek
            rw [List.getElem?_set_self (by omega)]
          · rw [List.getElem?_set_ne (fun z => ek z.symm)]
            exact hall1 k (by omega) h2)
  have hFd := fd_all (X := X) lF fun k hk => hall k (by omega) hk
  subst hFd
  have hg : gcR h.length (.ok (.lst h.length) (h ++ (.lst (((List.range ps.length).map X).map eQ) :: J))) = .ok (.lst h.length) (h ++ [.lst (((List.range ps.length).map X).map eQ)]) := by
    have e2 : ¬ (h ++ (HE.lst (((List.range ps.length).map X).map eQ) :: J)).length = h.length := by simp
    have e3 : (h ++ (HE.lst (((List.range ps.length).map X).map eQ) :: J)).take h.length = h := List.take_left' rfl
    have c' : clH h.length h = true := c
    have e5 : (D.lst h.length).cl h.length = false := by simp [D.cl]
    unfold gcR
    simp only [if_neg e2, e3, c', if_true, e5, Bool.false_eq_true, if_false, get_0]
    rw [if_pos ⟨Nat.le_refl _, clL_pu _ _ (eQs_pu _)⟩]
  simp only [ev_c, ev_var, ev_nil, ev_cons, ev_tup, ev_lst, ev_op, ev_tst, ev_toB, ev_tru, ev_andT, ev_orT, ev_notT, ev_andV, ev_orV, ev_notV, ev_neg, ev_ifE, ev_no, ev_so, ev_sl, ev_cb, ev_isi, ev_mt, ev_lr1, ev_gc, ev_gct, ev_call, ev_nx, ev_seq, ev_exp, ev_ret, ev_if, ev_set, ev_asg, ev_par, ev_gnm, ev_gsb, ev_gsnil, ev_gscons, ev_gtp, ev_yes, ev_retR_rt, bind_ok, List.getElem?_cons_zero, List.getElem?_cons_succ, List.set_cons_zero, List.set_cons_succ, List.length_cons, List.length_nil, Nat.reduceAdd, Nat.reduceLeDiff, if_true, gc_same, gct_same, v_truB, Sm.v_add, Sm.v_sub, isL_lst, decide_true, decide_false, Bool.not_true, Bool.not_false, Bool.false_eq_true, if_false, a1, t1, t2, a2, e, hg]
theorem e_worst_cost (c : Clo h) (W : WF ps) (T : TreeD t ps) (H : CH ps C) (hd : ∀ k p, ps[k]? = some (some p) → dp k = dp p + 1) (hd3 : ∀ k, dp k ≤ 3) (zs : Sz 7 s) (s0 : 0 < s) (lr : rw'.length = ps.length) (zr : SzL 2 rw') (z : Szs ps dp X) (hX : Cst' ps C s (Vf rw') X) :
    m_worst_cost [t, eT C, eQ s, eR rw'] h = .ok (eQ (X 0)) h := by
  unfold m_worst_cost mOf b_worst_cost
  have e1 := e_worst_costs c W T H hd hd3 zs s0 lr zr z hX
  have i1 : dIx (.lst h.length) (.int 0) (h ++ [.lst (((List.range ps.length).map X).map eQ)]) = .ok (eQ (X 0)) (h ++ [.lst (((List.range ps.length).map X).map eQ)]) := by
    refine v_ix (dI_lst get_0) (atI_nat' (n := 0) ?_)
    have := W.pos
    simp [this]
  have hst : startD 4 [t, eT C, eQ s, eR rw'] = [some t, some (eT C), some (eQ s), some (eR rw')] := rfl
  rw [hst]
  simp only [ev_c, ev_var, ev_nil, ev_cons, ev_tup, ev_lst, ev_op, ev_tst, ev_toB, ev_tru, ev_andT, ev_orT, ev_notT, ev_andV, ev_orV, ev_notV, ev_neg, ev_ifE, ev_no, ev_so, ev_sl, ev_cb, ev_isi, ev_mt, ev_lr1, ev_gc, ev_gct, ev_call, ev_nx, ev_seq, ev_exp, ev_ret, ev_if, ev_set, ev_asg, ev_par, ev_gnm, ev_gsb, ev_gsnil, ev_gscons, ev_gtp, ev_yes, ev_retR_rt, bind_ok, List.getElem?_cons_zero, List.getElem?_cons_succ, List.set_cons_zero, List.set_cons_succ, List.length_cons, List.length_nil, Nat.reduceAdd, Nat.reduceLeDiff, if_true, gc_same, gct_same, v_truB, Sm.v_add, Sm.v_sub, isL_lst, decide_true, decide_false, Bool.not_true, Bool.not_false, Bool.false_eq_true, if_false, e1, gc_np c (eQs_pu _), i1, gc_dp c (eQ_pu _)]
end
end Lw

/-! k47_EE: greatest sums, quotients. -/
namespace Lw
open PySem PySem.Spec PyProof.Rows L2 Sm Sq
section
variable {ps : List (Option Nat)} {C O : List (List Rat)} {dp : Nat → Nat} {rw' : List Rat} {t : D} {M : Nat → Rat}
theorem e_greatest_from (W : WF ps) (T : TreeD t ps) (hd : ∀ k p, ps[k]? = some (some p) → dp k = dp p + 1) (hd3 : ∀ k, dp k ≤ 3) (lr : rw'.length = ps.length) (zr : SzL 2 rw') (hM : Mst ps (Vf rw') M) (zM : ∀ k, Ok (M k)) :
    ∀ (d : Nat) (node : Nat) (h : MH), Clo h → node < ps.length → 3 - dp node < d → m_greatest_from d [t, eR rw', .int node] h = .ok (eQ (M node)) h
  | 0, _, _, _, _, l => absurd l (Nat.not_lt_zero _)
  | d + 1, node, h, c, ln, l => by
    have wl := W.len
    show mOf 7 (b_greatest_from (m_greatest_from d)) [t, eR rw', .int node] h = _
    unfold mOf b_greatest_from
    have hst : startD 7 [t, eR rw', .int node] = [some t, some (eR rw'), some (.int node), none, none, none, none] := rfl
    rw [hst]
    have b1 := e_ahead T (by omega) node c
    have c1 : Clo (h ++ [.lst ((kd ps node).map eI)]) := clo1 c (eIs_pu _)
    have hf := W.few node
    have b2 := fLc_mpyH (own := [6]) (fe := fGc (fCall 2 m_ahead (fCons (fVar 0) (fCons (fVar 2) fNil)))) (tgt := gNm 6) (elt := fGc (fCall 3 (m_greatest_from d) (fCons (fVar 0) (fCons (fVar 1) (fCons (fVar 6) fNil))))) (σ := [some t, some (eR rw'), some (.int node), none, none, none, none]) (h0 := h) (h := h ++ [.lst ((kd ps node).map eI)]) (d := .lst h.length) eI (kd ps node) sqn_new (by simp only [ev_c, ev_var, ev_nil, ev_cons, ev_tup, ev_lst, ev_op, ev_tst, ev_toB, ev_tru, ev_andT, ev_orT, ev_notT, ev_andV, ev_orV, ev_notV, ev_neg, ev_ifE, ev_no, ev_so, ev_sl, ev_cb, ev_isi, ev_mt, ev_lr1, ev_gc, ev_gct, ev_call, ev_nx, ev_seq, ev_exp, ev_ret, ev_if, ev_set, ev_asg, ev_par, ev_gnm, ev_gsb, ev_gsnil, ev_gscons, ev_gtp, ev_yes, ev_retR_rt, bind_ok, List.getElem?_cons_zero, List.getElem?_cons_succ, List.set_cons_zero, List.set_cons_succ, List.length_cons, List.length_nil, Nat.reduceAdd, Nat.reduceLeDiff, if_true, gc_same, gct_same, v_truB, Sm.v_add, Sm.v_sub, isL_lst, decide_true, decide_false, Bool.not_true, Bool.not_false, Bool.false_eq_true, if_false, b1, gc_np c (eIs_pu _)]) (by omega) (fun k => eQ (M k)) (by
      intro k mk
      have e := mem_kd.mp mk
      have hk := hd k node e
      have hk3 := hd3 k
      have ih := e_greatest_from W T hd hd3 lr zr hM zM d k (h ++ [.lst ((kd ps node).map eI)]) c1 (List.getElem?_eq_some_iff.mp e).1 (by omega)
      refine ⟨_, rfl, ?_⟩
      simp only [wipeD, ev_c, ev_var, ev_nil, ev_cons, ev_tup, ev_lst, ev_op, ev_tst, ev_toB, ev_tru, ev_andT, ev_orT, ev_notT, ev_andV, ev_orV, ev_notV, ev_neg, ev_ifE, ev_no, ev_so, ev_sl, ev_cb, ev_isi, ev_mt, ev_lr1, ev_gc, ev_gct, ev_call, ev_nx, ev_seq, ev_exp, ev_ret, ev_if, ev_set, ev_asg, ev_par, ev_gnm, ev_gsb, ev_gsnil, ev_gscons, ev_gtp, ev_yes, ev_retR_rt, bind_ok, List.getElem?_cons_zero, List.getElem?_cons_succ, List.set_cons_zero, List.set_cons_succ, List.length_cons, List.length_nil, Nat.reduceAdd, Nat.reduceLeDiff, if_true, gc_same, gct_same, v_truB, Sm.v_add, Sm.v_sub, isL_lst, decide_true, decide_false, Bool.not_true, Bool.not_false, Bool.false_eq_true, if_false, eI, ih])
    have em : (kd ps node).map (fun k => eQ (M k)) = ((kd ps node).map M).map eQ := by simp
    rw [em] at b2
    have c2 : Clo (h ++ [.lst (((kd ps node).map M).map eQ)]) := clo1 c (eQs_pu _)
    have ea : allocD [] (h ++ [.lst (((kd ps node).map M).map eQ)]) = .ok (.lst (h ++ [HE.lst (((kd ps node).map M).map eQ)]).length) (h ++ [.lst (((kd ps node).map M).map eQ)] ++ [.lst []]) := v_alloc (by simp)
    have eq : gcT (h ++ [HE.lst (((kd ps node).map M).map eQ)]).length ((dEq (.lst h.length) (.lst (h ++ [HE.lst (((kd ps node).map M).map eQ)]).length) (h ++ [.lst (((kd ps node).map M).map eQ)] ++ [.lst []])).bind toB) = .ok (decide (kd ps node = [])) (h ++ [.lst (((kd ps node).map M).map eQ)]) := by
      rw [v_eqL (ds := ((kd ps node).map M).map eQ) (es := []) (by simp) (by simp) (flatL_eQs _) (fun _ m => by cases m), bind_ok, ev_toB, gct_drop c2]
      congr 1
      rw [decide_eq_decide, List.map_eq_nil_iff, List.map_eq_nil_iff]
    have or : Ok (Vf rw' node) := ok_Vf zr (by decide) node
    have i1 : ∀ H : MH, dIx (eR rw') (.int node) H = .ok (eQ (Vf rw' node)) H := fun H => v_ixR (by omega)
    have h0 : (D.tup [.int 0, .int 1]) = eQ 0 := rfl
    match hk : kd ps node with
    | [] =>
      rw [hk] at b2 ea eq c2
      have hx := (hM node ln).1 hk
      have b3 : fFor (iSeq (fVar 3)) (gNm 5) (fSet 4 (fIfE (fTru (fGc (fCall 2 m_is_less (fCons (fVar 4) (fCons (fVar 5) fNil))))) (fVar 5) (fVar 4))) [some t, some (eR rw'), some (.int node), some (.lst h.length), some (eQ 0), none, none] (h ++ [.lst (([].map M).map eQ)]) = .ok (.nx [some t, some (eR rw'), some (.int node), some (.lst h.length), some (eQ 0), none, none]) (h ++ [.lst (([].map M).map eQ)]) := by
        have hi : (h ++ [HE.lst (([].map M).map eQ)])[h.length]? = some (.lst []) := by simp
        rw [fFor_eq (it := .lst h.length) (ds := []) (h1 := h ++ [.lst (([].map M).map eQ)]) (by simp [iSeq]) (items_lst hi), forGo, if_pos (chk_lst hi)]
      have b4 : m_plus [eQ (Vf rw' node), eQ 0] (h ++ [.lst (([].map M).map eQ)]) = .ok (eQ (M node)) (h ++ [.lst (([].map M).map eQ)]) := by
        rw [e_plus or (sz_0.mono (show 1 ≤ 4000 by decide)), Rat.add_zero, hx]
      rw [decide_eq_true rfl] at eq
      have hg := gc_new1 (h := h) (a := .lst ([].map eI)) (ds := ([].map M).map eQ) c rfl
      rw [hk] at b1
      simp only [ev_c, ev_var, ev_nil, ev_cons, ev_tup, ev_lst, ev_op, ev_tst, ev_toB, ev_tru, ev_andT, ev_orT, ev_notT, ev_andV, ev_orV, ev_notV, ev_neg, ev_ifE, ev_no, ev_so, ev_sl, ev_cb, ev_isi, ev_mt, ev_lr1, ev_gc, ev_gct, ev_call, ev_nx, ev_seq, ev_exp, ev_ret, ev_if, ev_set, ev_asg, ev_par, ev_gnm, ev_gsb, ev_gsnil, ev_gscons, ev_gtp, ev_yes, ev_retR_rt, bind_ok, List.getElem?_cons_zero, List.getElem?_cons_succ, List.set_cons_zero, List.set_cons_succ, List.length_cons, List.length_nil, Nat.reduceAdd, Nat.reduceLeDiff, if_true, gc_same, gct_same, v_truB, Sm.v_add, Sm.v_sub, isL_lst, decide_true, decide_false, Bool.not_true, Bool.not_false, Bool.false_eq_true, if_false, b2, hg, ea, eq, h0, b3, i1, b4, gc_dp c (eQ_pu _)]
    | j :: js =>
      rw [hk] at b2 ea eq c2
      have hx := (hM node ln).2 j js hk
      rw [decide_eq_false (by simp)] at eq
      have z2 : SzL 4000 (M j :: M j :: js.map M) := fun q m => by
        rcases List.mem_cons.mp m with rfl | m
        · exact zM _
        · rcases List.mem_cons.mp m with rfl | m
          · exact zM _
          · obtain ⟨i, _, rfl⟩ := List.mem_map.mp m; exact zM i
      have sq : Sqn (h ++ [.lst (((j :: js).map M).map eQ)]) (.lst h.length) ((M j :: js.map M).map eQ) := sqn_new
      obtain ⟨σ', b3, z', rfl⟩ := fFor_seq (fe := fVar 3) (tgt := gNm 5) (body := fSet 4 (fIfE (fTru (fGc (fCall 2 m_is_less (fCons (fVar 4) (fCons (fVar 5) fNil))))) (fVar 5) (fVar 4))) (σ := [some t, some (eR rw'), some (.int node), some (.lst h.length), some (eQ (M j)), none, none]) sq (by simp) (fun i σ => ∃ z, σ = [some t, some (eR rw'), some (.int node), some (.lst h.length), some (eQ (mxF (M j) ((M j :: js.map M).take i))), z, none]) ⟨none, by simp [mxF]⟩ (by
        rintro i e σ ei ⟨z', rfl⟩
        obtain ⟨x, ex, rfl⟩ := map_get ei
        refine ⟨_, _, rfl, ?_, some (eQ x), rfl⟩
        have hx : Ok x := z2 x (List.mem_cons_of_mem _ (List.mem_of_getElem? ex))
        have hl := e_is_less (ok_mxF z2 i) hx (h ++ [.lst (((j :: js).map M).map eQ)])
        simp only [mxF_take ex]
        by_cases cl : mxF (M j) ((M j :: js.map M).take i) < x
        · rw [decide_eq_true cl] at hl
          simp only [ev_c, ev_var, ev_nil, ev_cons, ev_tup, ev_lst, ev_op, ev_tst, ev_toB, ev_tru, ev_andT, ev_orT, ev_notT, ev_andV, ev_orV, ev_notV, ev_neg, ev_ifE, ev_no, ev_so, ev_sl, ev_cb, ev_isi, ev_mt, ev_lr1, ev_gc, ev_gct, ev_call, ev_nx, ev_seq, ev_exp, ev_ret, ev_if, ev_set, ev_asg, ev_par, ev_gnm, ev_gsb, ev_gsnil, ev_gscons, ev_gtp, ev_yes, ev_retR_rt, bind_ok, List.getElem?_cons_zero, List.getElem?_cons_succ, List.set_cons_zero, List.set_cons_succ, List.length_cons, List.length_nil, Nat.reduceAdd, Nat.reduceLeDiff, if_true, gc_same, gct_same, v_truB, Sm.v_add, Sm.v_sub, isL_lst, decide_true, decide_false, Bool.not_true, Bool.not_false, Bool.false_eq_true, if_false, hl, cl]
        · rw [decide_eq_false cl] at hl
          simp only [ev_c, ev_var, ev_nil, ev_cons, ev_tup, ev_lst, ev_op, ev_tst, ev_toB, ev_tru, ev_andT, ev_orT, ev_notT, ev_andV, ev_orV, ev_notV, ev_neg, ev_ifE, ev_no, ev_so, ev_sl, ev_cb, ev_isi, ev_mt, ev_lr1, ev_gc, ev_gct, ev_call, ev_nx, ev_seq, ev_exp, ev_ret, ev_if, ev_set, ev_asg, ev_par, ev_gnm, ev_gsb, ev_gsnil, ev_gscons, ev_gtp, ev_yes, ev_retR_rt, bind_ok, List.getElem?_cons_zero, List.getElem?_cons_succ, List.set_cons_zero, List.set_cons_succ, List.length_cons, List.length_nil, Nat.reduceAdd, Nat.reduceLeDiff, if_true, gc_same, gct_same, v_truB, Sm.v_add, Sm.v_sub, isL_lst, decide_true, decide_false, Bool.not_true, Bool.not_false, Bool.false_eq_true, if_false, hl, cl])
      have hfin : mxF (M j) ((M j :: js.map M).take ((M j :: js.map M).map eQ).length) = mxF (M j) (js.map M) := by
        rw [List.length_map, List.take_length, mxF_self]
      rw [hfin] at b3
      have i2 : dIx (.lst h.length) (.int 0) (h ++ [.lst (((j :: js).map M).map eQ)]) = .ok (eQ (M j)) (h ++ [.lst (((j :: js).map M).map eQ)]) := v_ix sq.dI (by simp)
      have om : Ok (mxF (M j) (js.map M)) := by
        rcases mxF_mem (q := M j) (qs := js.map M) with e | e
        · rw [e]; exact zM j
        · obtain ⟨i, _, e⟩ := List.mem_map.mp e
          rw [← e]; exact zM i
      have b4 := e_plus or om (h ++ [.lst (((j :: js).map M).map eQ)])
      rw [← hx] at b4
      have hg := gc_new1 (h := h) (a := .lst ((j :: js).map eI)) (ds := ((j :: js).map M).map eQ) c (eQs_pu _)
      simp only [ev_c, ev_var, ev_nil, ev_cons, ev_tup, ev_lst, ev_op, ev_tst, ev_toB, ev_tru, ev_andT, ev_orT, ev_notT, ev_andV, ev_orV, ev_notV, ev_neg, ev_ifE, ev_no, ev_so, ev_sl, ev_cb, ev_isi, ev_mt, ev_lr1, ev_gc, ev_gct, ev_call, ev_nx, ev_seq, ev_exp, ev_ret, ev_if, ev_set, ev_asg, ev_par, ev_gnm, ev_gsb, ev_gsnil, ev_gscons, ev_gtp, ev_yes, ev_retR_rt, bind_ok, List.getElem?_cons_zero, List.getElem?_cons_succ, List.set_cons_zero, List.set_cons_succ, List.length_cons, List.length_nil, Nat.reduceAdd, Nat.reduceLeDiff, if_true, gc_same, gct_same, v_truB, Sm.v_add, Sm.v_sub, isL_lst, decide_true, decide_false, Bool.not_true, Bool.not_false, Bool.false_eq_true, if_false, b2, hg, ea, eq, i2, b3, i1, b4, gc_dp c (eQ_pu _)]
theorem e_greatest_cost {h : MH} (c : Clo h) (W : WF ps) (T : TreeD t ps) (hd : ∀ k p, ps[k]? = some (some p) → dp k = dp p + 1) (hd3 : ∀ k, dp k ≤ 3) (lr : rw'.length = ps.length) (zr : SzL 2 rw') (hM : Mst ps (Vf rw') M) (zM : ∀ k, Ok (M k)) :
    m_greatest_cost [t, eR rw'] h = .ok (eQ (M 0)) h := by
  unfold m_greatest_cost mOf b_greatest_cost
  have e := e_greatest_from W T hd hd3 lr zr hM zM 24 0 h c W.pos (by omega)
  have hst : startD 2 [t, eR rw'] = [some t, some (eR rw')] := rfl
  rw [hst]
  simp only [ev_c, ev_var, ev_nil, ev_cons, ev_tup, ev_lst, ev_op, ev_tst, ev_toB, ev_tru, ev_andT, ev_orT, ev_notT, ev_andV, ev_orV, ev_notV, ev_neg, ev_ifE, ev_no, ev_so, ev_sl, ev_cb, ev_isi, ev_mt, ev_lr1, ev_gc, ev_gct, ev_call, ev_nx, ev_seq, ev_exp, ev_ret, ev_if, ev_set, ev_asg, ev_par, ev_gnm, ev_gsb, ev_gsnil, ev_gscons, ev_gtp, ev_yes, ev_retR_rt, bind_ok, List.getElem?_cons_zero, List.getElem?_cons_succ, List.set_cons_zero, List.set_cons_succ, List.length_cons, List.length_nil, Nat.reduceAdd, Nat.reduceLeDiff, if_true, gc_same, gct_same, v_truB, Sm.v_add, Sm.v_sub, isL_lst, decide_true, decide_false, Bool.not_true, Bool.not_false, Bool.false_eq_true, if_false]
  have e' : m_greatest_from 24 [t, eR rw', .int 0] h = .ok (eQ (M 0)) h := e
  simp only [e', ev_c, ev_var, ev_nil, ev_cons, ev_tup, ev_lst, ev_op, ev_tst, ev_toB, ev_tru, ev_andT, ev_orT, ev_notT, ev_andV, ev_orV, ev_notV, ev_neg, ev_ifE, ev_no, ev_so, ev_sl, ev_cb, ev_isi, ev_mt, ev_lr1, ev_gc, ev_gct, ev_call, ev_nx, ev_seq, ev_exp, ev_ret, ev_if, ev_set, ev_asg, ev_par, ev_gnm, ev_gsb, ev_gsnil, ev_gscons, ev_gtp, ev_yes, ev_retR_rt, bind_ok, List.getElem?_cons_zero, List.getElem?_cons_succ, List.set_cons_zero, List.set_cons_succ, List.length_cons, List.length_nil, Nat.reduceAdd, Nat.reduceLeDiff, if_true, gc_same, gct_same, v_truB, Sm.v_add, Sm.v_sub, isL_lst, decide_true, decide_false, Bool.not_true, Bool.not_false, Bool.false_eq_true, if_false]
/-- the quotients -/
def qts (C O : List (List Rat)) : List (List Rat) := (List.range C.length).map fun k => (List.range (cAt C k).length).map fun j => Vf (cAt O k) j / Vf (cAt C k) j
/-- chances above nothing -/
def Pos (C : List (List Rat)) : Prop := ∀ k, ∀ q ∈ cAt C k, 0 < q
theorem Vf_pos {qs : List Rat} (h : ∀ q ∈ qs, 0 < q) {j : Nat} (l : j < qs.length) : Vf qs j ≠ 0 := by
  unfold Vf
  rw [List.getElem?_eq_getElem l]
  have := h _ (List.getElem_mem l)
  simp only [Option.getD_some]
  grind
theorem e_tilted {h : MH} (c : Clo h) (hC : ∀ k, SzL 8 (cAt C k) ∧ (cAt C k).length ≤ 10) (hO : ∀ k, SzL 8 (cAt O k)) (hl : ∀ k, k < C.length → (cAt O k).length = (cAt C k).length) (lO : O.length = C.length) (l : C.length ≤ 40) (hp : Pos C) :
    m_tilted [t, eT C, eT O] h = .ok (eT (qts C O)) h := by
  unfold m_tilted mOf b_tilted
  have hst : startD 6 [t, eT C, eT O] = [some t, some (eT C), some (eT O), none, none, none] := rfl
  rw [hst]
  have a1 : allocD [] h = .ok (.lst h.length) (h ++ [.lst []]) := v_alloc (by simp)
  have el : ∀ H : MH, cLen [eT C] H = .ok (.int C.length) H := fun H => v_lenM (d := eT C) (e := eR) (xs := C) sqn_t
  have hpu : ∀ j, D.puL (((qts C O).take j).map eR) = true := fun j => eT_pu ((qts C O).take j)
  obtain ⟨σ', h', e, z4, rfl, rfl⟩ := fFor_rgI (fa := fCB cLen (fCons (fVar 1) fNil)) (tgt := gNm 4) (body := fExp (fGc (fMt mAppend (fVar 3) (fCons (fGc (fCB cTup (fCons (fGc (fLc [5] (iRg1 (fCB cLen (fCons (fOp dIx (fVar 1) (fVar 4)) fNil))) (gNm 5) fYes (fGc (fCall 2 m_over (fCons (fOp dIx (fOp dIx (fVar 2) (fVar 4)) (fVar 5)) (fCons (fOp dIx (fOp dIx (fVar 1) (fVar 4)) (fVar 5)) fNil)))))) fNil))) fNil)))) (σ := [some t, some (eT C), some (eT O), some (.lst h.length), none, none]) (h := h ++ [.lst []]) (n := C.length) (by simp only [ev_c, ev_var, ev_nil, ev_cons, ev_tup, ev_lst, ev_op, ev_tst, ev_toB, ev_tru, ev_andT, ev_orT, ev_notT, ev_andV, ev_orV, ev_notV, ev_neg, ev_ifE, ev_no, ev_so, ev_sl, ev_cb, ev_isi, ev_mt, ev_lr1, ev_gc, ev_gct, ev_call, ev_nx, ev_seq, ev_exp, ev_ret, ev_if, ev_set, ev_asg, ev_par, ev_gnm, ev_gsb, ev_gsnil, ev_gscons, ev_gtp, ev_yes, ev_retR_rt, bind_ok, List.getElem?_cons_zero, List.getElem?_cons_succ, List.set_cons_zero, List.set_cons_succ, List.length_cons, List.length_nil, Nat.reduceAdd, Nat.reduceLeDiff, if_true, gc_same, gct_same, v_truB, Sm.v_add, Sm.v_sub, isL_lst, decide_true, decide_false, Bool.not_true, Bool.not_false, Bool.false_eq_true, if_false, el]) (by omega)
    (fun j σ h' => ∃ z, σ = [some t, some (eT C), some (eT O), some (.lst h.length), z, none] ∧ h' = h ++ [.lst (((qts C O).take j).map eR)]) ⟨none, rfl, by simp⟩ (by
      rintro k σ _ hk ⟨z, rfl, rfl⟩
      have c1 : Clo (h ++ [.lst (((qts C O).take k).map eR)]) := clo1 c (hpu k)
      have i1 : dIx (eT C) (.int k) (h ++ [.lst (((qts C O).take k).map eR)]) = .ok (eR (cAt C k)) (h ++ [.lst (((qts C O).take k).map eR)]) := v_ixT hk
      have i2 : dIx (eT O) (.int k) (h ++ [.lst (((qts C O).take k).map eR)]) = .ok (eR (cAt O k)) (h ++ [.lst (((qts C O).take k).map eR)]) := v_ixT (by omega)
      have ll : cLen [eR (cAt C k)] (h ++ [.lst (((qts C O).take k).map eR)]) = .ok (.int (cAt C k).length) (h ++ [.lst (((qts C O).take k).map eR)]) := v_lenM (d := eR (cAt C k)) (e := eQ) (xs := cAt C k) sqn_t
      have b1 := fLc_rg (own := [5]) (fa := fCB cLen (fCons (fOp dIx (fVar 1) (fVar 4)) fNil)) (tgt := gNm 5) (elt := fGc (fCall 2 m_over (fCons (fOp dIx (fOp dIx (fVar 2) (fVar 4)) (fVar 5)) (fCons (fOp dIx (fOp dIx (fVar 1) (fVar 4)) (fVar 5)) fNil)))) (σ := [some t, some (eT C), some (eT O), some (.lst h.length), some (.int k), none]) (h := h ++ [.lst (((qts C O).take k).map eR)]) (n := (cAt C k).length) (by simp only [ev_c, ev_var, ev_nil, ev_cons, ev_tup, ev_lst, ev_op, ev_tst, ev_toB, ev_tru, ev_andT, ev_orT, ev_notT, ev_andV, ev_orV, ev_notV, ev_neg, ev_ifE, ev_no, ev_so, ev_sl, ev_cb, ev_isi, ev_mt, ev_lr1, ev_gc, ev_gct, ev_call, ev_nx, ev_seq, ev_exp, ev_ret, ev_if, ev_set, ev_asg, ev_par, ev_gnm, ev_gsb, ev_gsnil, ev_gscons, ev_gtp, ev_yes, ev_retR_rt, bind_ok, List.getElem?_cons_zero, List.getElem?_cons_succ, List.set_cons_zero, List.set_cons_succ, List.length_cons, List.length_nil, Nat.reduceAdd, Nat.reduceLeDiff, if_true, gc_same, gct_same, v_truB, Sm.v_add, Sm.v_sub, isL_lst, decide_true, decide_false, Bool.not_true, Bool.not_false, Bool.false_eq_true, if_false, i1, ll]) (by have := (hC k).2; omega) (fun j => eQ (Vf (cAt O k) j / Vf (cAt C k) j)) (by
        intro j hj
        refine ⟨_, rfl, ?_⟩
        simp only [wipeD, ev_c, ev_var, ev_nil, ev_cons, ev_tup, ev_lst, ev_op, ev_tst, ev_toB, ev_tru, ev_andT, ev_orT, ev_notT, ev_andV, ev_orV, ev_notV, ev_neg, ev_ifE, ev_no, ev_so, ev_sl, ev_cb, ev_isi, ev_mt, ev_lr1, ev_gc, ev_gct, ev_call, ev_nx, ev_seq, ev_exp, ev_ret, ev_if, ev_set, ev_asg, ev_par, ev_gnm, ev_gsb, ev_gsnil, ev_gscons, ev_gtp, ev_yes, ev_retR_rt, bind_ok, List.getElem?_cons_zero, List.getElem?_cons_succ, List.set_cons_zero, List.set_cons_succ, List.length_cons, List.length_nil, Nat.reduceAdd, Nat.reduceLeDiff, if_true, gc_same, gct_same, v_truB, Sm.v_add, Sm.v_sub, isL_lst, decide_true, decide_false, Bool.not_true, Bool.not_false, Bool.false_eq_true, if_false, i1, i2, v_ixR (show j < (cAt O k).length by rw [hl k hk]; exact hj), v_ixR hj, e_over (ok_Vf (hO k) (by decide) j) (ok_Vf (hC k).1 (by decide) j) (Vf_pos (hp k) hj)])
      have em : (List.range (cAt C k).length).map (fun j => eQ (Vf (cAt O k) j / Vf (cAt C k) j)) = ((List.range (cAt C k).length).map fun j => Vf (cAt O k) j / Vf (cAt C k) j).map eQ := by simp
      rw [em] at b1
      have b2 := tup_gc c1 (eQs_pu ((List.range (cAt C k).length).map fun j => Vf (cAt O k) j / Vf (cAt C k) j))
      have hq : (qts C O)[k]? = some ((List.range (cAt C k).length).map fun j => Vf (cAt O k) j / Vf (cAt C k) j) := by simp [qts, hk]
      have b3 : mAppend (.lst h.length) [.tup (((List.range (cAt C k).length).map fun j => Vf (cAt O k) j / Vf (cAt C k) j).map eQ)] (h ++ [.lst (((qts C O).take k).map eR)]) = .ok .non (h ++ [.lst (((qts C O).take (k + 1)).map eR)]) := by
        rw [v_append get_0 (by simp [qts]; omega), set_a, List.take_succ, hq]
        simp [eR]
      have hlen : (h ++ [HE.lst (((qts C O).take (k + 1)).map eR)]).length = (h ++ [HE.lst (((qts C O).take k).map eR)]).length := by simp
      have b4 : gcR (h ++ [HE.lst (((qts C O).take k).map eR)]).length (.ok .non (h ++ [.lst (((qts C O).take (k + 1)).map eR)])) = .ok .non (h ++ [.lst (((qts C O).take (k + 1)).map eR)]) := gc_len (h := []) hlen
      refine ⟨_, _, _, _, rfl, ?_, some (.int k), rfl, rfl⟩
      simp only [ev_c, ev_var, ev_nil, ev_cons, ev_tup, ev_lst, ev_op, ev_tst, ev_toB, ev_tru, ev_andT, ev_orT, ev_notT, ev_andV, ev_orV, ev_notV, ev_neg, ev_ifE, ev_no, ev_so, ev_sl, ev_cb, ev_isi, ev_mt, ev_lr1, ev_gc, ev_gct, ev_call, ev_nx, ev_seq, ev_exp, ev_ret, ev_if, ev_set, ev_asg, ev_par, ev_gnm, ev_gsb, ev_gsnil, ev_gscons, ev_gtp, ev_yes, ev_retR_rt, bind_ok, List.getElem?_cons_zero, List.getElem?_cons_succ, List.set_cons_zero, List.set_cons_succ, List.length_cons, List.length_nil, Nat.reduceAdd, Nat.reduceLeDiff, if_true, gc_same, gct_same, v_truB, Sm.v_add, Sm.v_sub, isL_lst, decide_true, decide_false, Bool.not_true, Bool.not_false, Bool.false_eq_true, if_false, b1, gc_np c1 (eQs_pu _), b2, b3, b4])
  have hall : (qts C O).take C.length = qts C O := List.take_of_length_le (by simp [qts])
  rw [hall] at e
  have et : cTup [.lst h.length] (h ++ [.lst ((qts C O).map eR)]) = .ok (eT (qts C O)) (h ++ [.lst ((qts C O).map eR)]) := v_tup_lst get_0
  simp only [ev_c, ev_var, ev_nil, ev_cons, ev_tup, ev_lst, ev_op, ev_tst, ev_toB, ev_tru, ev_andT, ev_orT, ev_notT, ev_andV, ev_orV, ev_notV, ev_neg, ev_ifE, ev_no, ev_so, ev_sl, ev_cb, ev_isi, ev_mt, ev_lr1, ev_gc, ev_gct, ev_call, ev_nx, ev_seq, ev_exp, ev_ret, ev_if, ev_set, ev_asg, ev_par, ev_gnm, ev_gsb, ev_gsnil, ev_gscons, ev_gtp, ev_yes, ev_retR_rt, bind_ok, List.getElem?_cons_zero, List.getElem?_cons_succ, List.set_cons_zero, List.set_cons_succ, List.length_cons, List.length_nil, Nat.reduceAdd, Nat.reduceLeDiff, if_true, gc_same, gct_same, v_truB, Sm.v_add, Sm.v_sub, isL_lst, decide_true, decide_false, Bool.not_true, Bool.not_false, Bool.false_eq_true, if_false, a1, e, et, gc_dp c (eT_pu _)]
end
end Lw

/-! k47_EF: the law's costs hold. -/
namespace Lw
open PySem PySem.Spec PyProof.Rows L2 Sm Sq
/-- the rows of nodes ahead, held by the law -/
def KL (h : MH) (d : D) (ps : List (Option Nat)) : Prop := ∃ (n : Nat) (ids : List Nat), d = .lst n ∧ h[n]? = some (.lst (ids.map D.lst)) ∧ ids.length = ps.length ∧ ∀ k, k < ps.length → ∃ id : Nat, ids[k]? = some id ∧ h[id]? = some (.lst ((kd ps k).map eI))
theorem KL.app {h g : MH} {d : D} {ps : List (Option Nat)} (K : KL h d ps) : KL (h ++ g) d ps := by
  obtain ⟨n, ids, rfl, e, l, H⟩ := K
  refine ⟨n, ids, rfl, by rw [List.getElem?_append_left (List.getElem?_eq_some_iff.mp e).1]; exact e, l, fun k hk => ?_⟩
  obtain ⟨id, a, b⟩ := H k hk
  exact ⟨id, a, by rw [List.getElem?_append_left (List.getElem?_eq_some_iff.mp b).1]; exact b⟩
theorem KL.ix {h : MH} {d : D} {ps : List (Option Nat)} (K : KL h d ps) {k : Nat} (l : k < ps.length) : ∃ id : Nat, dIx d (.int k) h = .ok (.lst id) h ∧ h[id]? = some (.lst ((kd ps k).map eI)) := by
  obtain ⟨n, ids, rfl, e, _, H⟩ := K
  obtain ⟨id, a, b⟩ := H k l
  exact ⟨id, v_ixM (e := D.lst) (xs := ids) (sqn_l e) a, b⟩
def md (n : Nat) (rw' : List Rat) (f : Nat → Rat) (j : Nat) : List Rat := (List.range n).map fun k => if n - j ≤ k then f k else Vf rw' k
section
variable {n j : Nat} {rw' : List Rat} {f : Nat → Rat}
theorem md_len : (md n rw' f j).length = n := by simp [md]
theorem md_0 (l : rw'.length = n) : md n rw' f 0 = rw' := by
  conv => rhs; rw [rows_Vf (ws := rw')]
  unfold md
  rw [l]
  apply List.map_congr_left
  intro k m
  rw [List.mem_range] at m
  rw [if_neg (by omega)]
theorem md_all : md n rw' f n = (List.range n).map f := by
  unfold md
  apply List.map_congr_left
  intro k m
  rw [if_pos (by omega)]
theorem md_set (l : j < n) : (md n rw' f j).set (n - 1 - j) (f (n - 1 - j)) = md n rw' f (j + 1) := by
  apply List.ext_getElem?
  intro k
  by_cases hk : k < n
  · by_cases e : k = n - 1 - j
    · rw [← e, List.getElem?_set_self (by rw [md_len]; exact hk)]
      simp only [md, List.getElem?_map, List.getElem?_range hk, Option.map_some]
      rw [if_pos (by omega)]
    · rw [List.getElem?_set_ne (fun z => e z.symm)]
      simp only [md, List.getElem?_map, List.getElem?_range hk, Option.map_some]
      congr 1
      by_cases h : n - j ≤ k
      · rw [if_pos h, if_pos (by omega)]
      · rw [if_neg h, if_neg (by omega)]
  · rw [List.getElem?_eq_none (by rw [List.length_set, md_len]; omega), List.getElem?_eq_none (by rw [md_len]; omega)]
theorem md_same (l : j < n) (e : f (n - 1 - j) = Vf rw' (n - 1 - j)) : md n rw' f j = md n rw' f (j + 1) := by
  unfold md
  apply List.map_congr_left
  intro k m
  rw [List.mem_range] at m
  by_cases h : n - j ≤ k
  · rw [if_pos h, if_pos (by omega)]
  · rw [if_neg h]
    by_cases h2 : n - (j + 1) ≤ k
    · rw [if_pos h2, show k = n - 1 - j by omega, e]
    · rw [if_neg h2]
theorem md_get {k : Nat} (h : n - j ≤ k) (l : k < n) : (md n rw' f j)[k]? = some (f k) := by
  simp only [md, List.getElem?_map, List.getElem?_range l, Option.map_some]
  rw [if_pos h]
end
theorem eQ_100 : (D.tup [.int 1, .int 100]) = eQ (Q 1 100) := by
  rw [eQ_divInt (by decide)]
  rfl
section
variable {ps : List (Option Nat)} {C : List (List Rat)} {dp : Nat → Nat} {s : Rat} {rw' : List Rat} {t kl : D} {h : MH} {X M w : Nat → Rat}
theorem costs_loop (c : Clo h) (W : WF ps) (H : CH ps C) (hd : ∀ k p, ps[k]? = some (some p) → dp k = dp p + 1) (hd3 : ∀ k, dp k ≤ 3) (zs : Sz 7 s) (s0 : 0 < s) (lr : rw'.length = ps.length) (zr : SzL 2 rw') (K : KL h kl ps)
    (z : Szs ps dp X) (hX : Cst' ps C s (Vf rw') X) (hM : Mst ps (Vf rw') M) (zM : ∀ k, Ok (M k)) :
    ∃ J z7 z8, fFor (iRgN (fOp dSub (fCB cLen (fCons (fVar 3) fNil)) (fC (.int 1))) (fNeg (fC (.int 1))) (fNeg (fC (.int 1)))) (gNm 7) (fIf (fGcT (fTst (fOp dNe (fOp dIx (fVar 4) (fVar 7)) (fLst fNil)))) (fSeq (fSet 8 (fGc (fLc [9] (iSeq (fOp dIx (fVar 4) (fVar 7))) (gNm 9) fYes (fGc (fCall 1 m_Lneg (fCons (fOp dIx (fVar 5) (fVar 9)) fNil)))))) (fSeq (fAsg (fGc (fCall 2 m_Ladd (fCons (fOp dIx (fVar 3) (fVar 7)) (fCons (fGc (fCall 1 m_Lneg (fCons (fGc (fCall 2 m_Ldot (fCons (fGc (fCall 3 m_Lweights (fCons (fVar 8) (fCons (fOp dIx (fVar 1) (fVar 7)) (fCons (fVar 2) fNil))))) (fCons (fVar 8) fNil)))) fNil))) fNil)))) (gSb (fVar 5) (fVar 7))) (fAsg (fGc (fCall 2 m_Ladd (fCons (fOp dIx (fVar 3) (fVar 7)) (fCons (fGc (fCall 1 m_Lmost (fCons (fGc (fLc [9] (iSeq (fOp dIx (fVar 4) (fVar 7))) (gNm 9) fYes (fOp dIx (fVar 6) (fVar 9)))) fNil))) fNil)))) (gSb (fVar 6) (fVar 7))))) fNx)
      [some t, some (eT C), some (eQ s), some (eR rw'), some kl, some (.lst h.length), some (.lst (h.length + 1)), none, none, none] (h ++ [.lst (rw'.map eQ), .lst (rw'.map eQ)])
      = .ok (.nx [some t, some (eT C), some (eQ s), some (eR rw'), some kl, some (.lst h.length), some (.lst (h.length + 1)), z7, z8, none]) (h ++ (.lst (((List.range ps.length).map X).map eQ) :: .lst (((List.range ps.length).map M).map eQ) :: J)) ∧ Pur J := by
  have wlen := W.len
  have el : ∀ H : MH, cLen [eR rw'] H = .ok (.int ps.length) H := fun H => by rw [v_lenM (d := eR rw') (e := eQ) (xs := rw') sqn_t, lr]
  obtain ⟨σ', h', e, J, z7, z8, rfl, eh, hJ⟩ := fFor_dn (fa := fOp dSub (fCB cLen (fCons (fVar 3) fNil)) (fC (.int 1))) (tgt := gNm 7) (body := fIf (fGcT (fTst (fOp dNe (fOp dIx (fVar 4) (fVar 7)) (fLst fNil)))) (fSeq (fSet 8 (fGc (fLc [9] (iSeq (fOp dIx (fVar 4) (fVar 7))) (gNm 9) fYes (fGc (fCall 1 m_Lneg (fCons (fOp dIx (fVar 5) (fVar 9)) fNil)))))) (fSeq (fAsg (fGc (fCall 2 m_Ladd (fCons (fOp dIx (fVar 3) (fVar 7)) (fCons (fGc (fCall 1 m_Lneg (fCons (fGc (fCall 2 m_Ldot (fCons (fGc (fCall 3 m_Lweights (fCons (fVar 8) (fCons (fOp dIx (fVar 1) (fVar 7)) (fCons (fVar 2) fNil))))) (fCons (fVar 8) fNil)))) fNil))) fNil)))) (gSb (fVar 5) (fVar 7))) (fAsg (fGc (fCall 2 m_Ladd (fCons (fOp dIx (fVar 3) (fVar 7)) (fCons (fGc (fCall 1 m_Lmost (fCons (fGc (fLc [9] (iSeq (fOp dIx (fVar 4) (fVar 7))) (gNm 9) fYes (fOp dIx (fVar 6) (fVar 9)))) fNil))) fNil)))) (gSb (fVar 6) (fVar 7))))) fNx)
    (σ := [some t, some (eT C), some (eQ s), some (eR rw'), some kl, some (.lst h.length), some (.lst (h.length + 1)), none, none, none]) (h := h ++ [.lst (rw'.map eQ), .lst (rw'.map eQ)]) (n := ps.length) (by simp only [ev_c, ev_var, ev_nil, ev_cons, ev_tup, ev_lst, ev_op, ev_tst, ev_toB, ev_tru, ev_andT, ev_orT, ev_notT, ev_andV, ev_orV, ev_notV, ev_neg, ev_ifE, ev_no, ev_so, ev_sl, ev_cb, ev_isi, ev_mt, ev_lr1, ev_gc, ev_gct, ev_call, ev_nx, ev_seq, ev_exp, ev_ret, ev_if, ev_set, ev_asg, ev_par, ev_gnm, ev_gsb, ev_gsnil, ev_gscons, ev_gtp, ev_yes, ev_retR_rt, bind_ok, List.getElem?_cons_zero, List.getElem?_cons_succ, List.set_cons_zero, List.set_cons_succ, List.length_cons, List.length_nil, Nat.reduceAdd, Nat.reduceLeDiff, if_true, gc_same, gct_same, v_truB, Sm.v_add, Sm.v_sub, isL_lst, decide_true, decide_false, Bool.not_true, Bool.not_false, Bool.false_eq_true, if_false, el]) (by omega)
    (fun j σ h' => ∃ J z7 z8, σ = [some t, some (eT C), some (eQ s), some (eR rw'), some kl, some (.lst h.length), some (.lst (h.length + 1)), z7, z8, none] ∧ h' = h ++ (.lst ((md ps.length rw' X j).map eQ) :: .lst ((md ps.length rw' M j).map eQ) :: J) ∧ Pur J)
    ⟨[], none, none, rfl, by rw [md_0 lr, md_0 lr], (fun e m => by cases m)⟩ (by
      rintro j σ h' hj ⟨J, z7, z8, rfl, eh, hJ⟩
      rw [eh]
      have pJ : Pur (.lst ((md ps.length rw' X j).map eQ) :: .lst ((md ps.length rw' M j).map eQ) :: J) := fun e m => by
        rcases List.mem_cons.mp m with rfl | m
        · exact ⟨_, rfl, eQs_pu _⟩
        · rcases List.mem_cons.mp m with rfl | m
          · exact ⟨_, rfl, eQs_pu _⟩
          · exact hJ e m
      have c1 := clo_pur c pJ
      have K1 : KL (h ++ (.lst ((md ps.length rw' X j).map eQ) :: .lst ((md ps.length rw' M j).map eQ) :: J)) kl ps := K.app
      have l1 : (md ps.length rw' X j).length = ps.length := md_len
      have l2 : (md ps.length rw' M j).length = ps.length := md_len
      have sX := md_set (rw' := rw') (f := X) hj
      have sM := md_set (rw' := rw') (f := M) hj
      have gX : ∀ k, ps.length - j ≤ k → k < ps.length → (md ps.length rw' X j)[k]? = some (X k) := fun k a b => md_get a b
      have gM : ∀ k, ps.length - j ≤ k → k < ps.length → (md ps.length rw' M j)[k]? = some (M k) := fun k a b => md_get a b
      have lsX : ps.length - 1 - j < ps.length := by omega
      have leafX := md_same (rw' := rw') (f := X) hj
      have leafM := md_same (rw' := rw') (f := M) hj
      generalize md ps.length rw' X (j + 1) = X' at sX leafX
      generalize md ps.length rw' M (j + 1) = M' at sM leafM
      generalize md ps.length rw' X j = Xj at *
      generalize md ps.length rw' M j = Mj at *
      generalize hnode : ps.length - 1 - j = node at *
      have hk := hX node lsX
      have hm := hM node lsX
      obtain ⟨id, i0, gk⟩ := K1.ix lsX
      have ea : allocD [] (h ++ (.lst (Xj.map eQ) :: .lst (Mj.map eQ) :: J)) = .ok (.lst (h ++ (HE.lst (Xj.map eQ) :: .lst (Mj.map eQ) :: J)).length) (h ++ (.lst (Xj.map eQ) :: .lst (Mj.map eQ) :: J) ++ [.lst []]) := v_alloc (by simp)
      have en := ne_nil c1 gk
      by_cases hkn : kd ps node = []
      · rw [hkn, decide_eq_true rfl] at en
        refine ⟨_, _, [some t, some (eT C), some (eQ s), some (eR rw'), some kl, some (.lst h.length), some (.lst (h.length + 1)), some (.int node), z8, none], h ++ (.lst (X'.map eQ) :: .lst (M'.map eQ) :: J), rfl, ?_, J, some (.int node), z8, rfl, rfl, hJ⟩
        rw [← leafX (hk.1 hkn), ← leafM (hm.1 hkn)]
        simp only [Bool.not_true] at en
        simp only [ev_c, ev_var, ev_nil, ev_cons, ev_tup, ev_lst, ev_op, ev_tst, ev_toB, ev_tru, ev_andT, ev_orT, ev_notT, ev_andV, ev_orV, ev_notV, ev_neg, ev_ifE, ev_no, ev_so, ev_sl, ev_cb, ev_isi, ev_mt, ev_lr1, ev_gc, ev_gct, ev_call, ev_nx, ev_seq, ev_exp, ev_ret, ev_if, ev_set, ev_asg, ev_par, ev_gnm, ev_gsb, ev_gsnil, ev_gscons, ev_gtp, ev_yes, ev_retR_rt, bind_ok, List.getElem?_cons_zero, List.getElem?_cons_succ, List.set_cons_zero, List.set_cons_succ, List.length_cons, List.length_nil, Nat.reduceAdd, Nat.reduceLeDiff, if_true, gc_same, gct_same, v_truB, Sm.v_add, Sm.v_sub, isL_lst, decide_true, decide_false, Bool.not_true, Bool.not_false, Bool.false_eq_true, if_false, i0, ea, en]
      · rw [decide_eq_false hkn] at en
        simp only [Bool.not_false] at en
        have dz := deeper hd hd3 hkn
        have hf := W.few node
        have cz2 : cz (3 - (dp node + 1)) ≤ 1018 := Nat.le_trans (cz_mono (show 3 - (dp node + 1) ≤ 2 by omega)) (by decide)
        have kids : ∀ k ∈ kd ps node, ps.length - j ≤ k ∧ k < ps.length := fun k mk => by
          have e := mem_kd.mp mk
          have := W.back e
          exact ⟨by omega, (List.getElem?_eq_some_iff.mp e).1⟩
        have g0 : (h ++ (HE.lst (Xj.map eQ) :: .lst (Mj.map eQ) :: J))[h.length]? = some (.lst (Xj.map eQ)) := get_0
        have g1 : (h ++ (HE.lst (Xj.map eQ) :: .lst (Mj.map eQ) :: J))[h.length + 1]? = some (.lst (Mj.map eQ)) := get_1
        have b1 := fLc_mpy (own := [9]) (fe := fOp dIx (fVar 4) (fVar 7)) (tgt := gNm 9) (elt := fGc (fCall 1 m_Lneg (fCons (fOp dIx (fVar 5) (fVar 9)) fNil))) (σ := [some t, some (eT C), some (eQ s), some (eR rw'), some kl, some (.lst h.length), some (.lst (h.length + 1)), some (.int node), z8, none]) (h := h ++ (.lst (Xj.map eQ) :: .lst (Mj.map eQ) :: J)) (d := .lst id) eI (kd ps node) (sqn_l gk) (by simp only [ev_c, ev_var, ev_nil, ev_cons, ev_tup, ev_lst, ev_op, ev_tst, ev_toB, ev_tru, ev_andT, ev_orT, ev_notT, ev_andV, ev_orV, ev_notV, ev_neg, ev_ifE, ev_no, ev_so, ev_sl, ev_cb, ev_isi, ev_mt, ev_lr1, ev_gc, ev_gct, ev_call, ev_nx, ev_seq, ev_exp, ev_ret, ev_if, ev_set, ev_asg, ev_par, ev_gnm, ev_gsb, ev_gsnil, ev_gscons, ev_gtp, ev_yes, ev_retR_rt, bind_ok, List.getElem?_cons_zero, List.getElem?_cons_succ, List.set_cons_zero, List.set_cons_succ, List.length_cons, List.length_nil, Nat.reduceAdd, Nat.reduceLeDiff, if_true, gc_same, gct_same, v_truB, Sm.v_add, Sm.v_sub, isL_lst, decide_true, decide_false, Bool.not_true, Bool.not_false, Bool.false_eq_true, if_false, i0]) (by omega) (fun k => eQ (-X k)) (by
          intro k mk
          have hk2 := kids k mk
          have i2 : dIx (.lst h.length) (.int k) (h ++ (.lst (Xj.map eQ) :: .lst (Mj.map eQ) :: J)) = .ok (eQ (X k)) (h ++ (.lst (Xj.map eQ) :: .lst (Mj.map eQ) :: J)) := v_ixM (sqn_l g0) (gX k hk2.1 hk2.2)
          refine ⟨_, rfl, ?_⟩
          simp only [wipeD, ev_c, ev_var, ev_nil, ev_cons, ev_tup, ev_lst, ev_op, ev_tst, ev_toB, ev_tru, ev_andT, ev_orT, ev_notT, ev_andV, ev_orV, ev_notV, ev_neg, ev_ifE, ev_no, ev_so, ev_sl, ev_cb, ev_isi, ev_mt, ev_lr1, ev_gc, ev_gct, ev_call, ev_nx, ev_seq, ev_exp, ev_ret, ev_if, ev_set, ev_asg, ev_par, ev_gnm, ev_gsb, ev_gsnil, ev_gscons, ev_gtp, ev_yes, ev_retR_rt, bind_ok, List.getElem?_cons_zero, List.getElem?_cons_succ, List.set_cons_zero, List.set_cons_succ, List.length_cons, List.length_nil, Nat.reduceAdd, Nat.reduceLeDiff, if_true, gc_same, gct_same, v_truB, Sm.v_add, Sm.v_sub, isL_lst, decide_true, decide_false, Bool.not_true, Bool.not_false, Bool.false_eq_true, if_false, eI, i2, e_Lneg])
        have em : (kd ps node).map (fun k => eQ (-X k)) = ((kd ps node).map fun k => -X k).map eQ := by simp
        rw [em] at b1
        have c2 : Clo (h ++ (.lst (Xj.map eQ) :: .lst (Mj.map eQ) :: J) ++ [.lst (((kd ps node).map fun k => -X k).map eQ)]) := clo1 c1 (eQs_pu _)
        have zk := szs_kids W hd z (fun k => -X k) (fun k => .inr rfl) node
        have hp := spl_srt (zk.mono (Nat.le_trans cz2 (by decide))) (by simp; omega)
        have sG : Sqn (h ++ (HE.lst (Xj.map eQ) :: .lst (Mj.map eQ) :: J) ++ [.lst (((kd ps node).map fun k => -X k).map eQ)]) (.lst (h ++ (HE.lst (Xj.map eQ) :: .lst (Mj.map eQ) :: J)).length) (((kd ps node).map fun k => -X k).map eQ) := sqn_new
        obtain ⟨b3, zw⟩ := e_Lweights (A := 40) (a := 7) (b := 5) (u := cz (3 - (dp node + 1))) (v := .lst (h ++ (HE.lst (Xj.map eQ) :: .lst (Mj.map eQ) :: J)).length) (vs := (kd ps node).map fun k => -X k) c2 sG (ch := eR (cAt C node)) sqn_t (by rw [(H.some node lsX hkn).1]; simp) zk (H.sz lsX) zs s0 (by decide) (Nat.le_trans (by decide) cz_ge) (by rw [List.length_map]; omega) (by omega) (by rw [List.length_map]; omega) hp
        have b4 := e_Ldot c2 (d := eR (wl (cAt C node) s ((kd ps node).map fun k => -X k).length (spl ((kd ps node).map fun k => -X k)))) (ps := wl (cAt C node) s ((kd ps node).map fun k => -X k).length (spl ((kd ps node).map fun k => -X k))) sqn_t sG zw zk (by rw [wl_len]; omega) (by
          rw [wl_len, List.length_map]
          have := Nat.mul_le_mul_right (40 + 5 + 7 + cz (3 - (dp node + 1)) + 1) hf
          omega) (by decide) (by omega)
        rw [due_wv hp.1] at b4
        have b4' : m_Ldot [eR (wl (cAt C node) s ((kd ps node).map fun k => -X k).length (spl ((kd ps node).map fun k => -X k))), .lst (h ++ (HE.lst (Xj.map eQ) :: .lst (Mj.map eQ) :: J)).length] (h ++ (.lst (Xj.map eQ) :: .lst (Mj.map eQ) :: J) ++ [.lst (((kd ps node).map fun k => -X k).map eQ)]) = .ok (eQ (wvs ((kd ps node).map fun k => -X k) (cAt C node) s)) (h ++ (.lst (Xj.map eQ) :: .lst (Mj.map eQ) :: J) ++ [.lst (((kd ps node).map fun k => -X k).map eQ)]) := b4
        have hx := hk.2 hkn
        have zx : Sz (cz (3 - dp node)) (X node) := z node lsX
        have zx4 : cz (3 - dp node) ≤ 3600 := cz_le (by omega)
        have ow : Ok (-(wvs ((kd ps node).map fun k => -X k) (cAt C node) s)) := by
          have : -(wvs ((kd ps node).map fun k => -X k) (cAt C node) s) = X node - Vf rw' node := by rw [hx]; grind
          rw [this]
          exact (sz_sub zx (sz_Vf zr (by decide) node)).mono (by omega)
        have or : Ok (Vf rw' node) := ok_Vf zr (by decide) node
        have i1 : ∀ H : MH, dIx (eR rw') (.int node) H = .ok (eQ (Vf rw' node)) H := fun H => v_ixR (by omega)
        have i3 : ∀ H : MH, dIx (eT C) (.int node) H = .ok (eR (cAt C node)) H := fun _ => v_ixT (by rw [‹CH ps C›.len]; exact lsX)
        have b5 : m_Ladd [eQ (Vf rw' node), eQ (-(wvs ((kd ps node).map fun k => -X k) (cAt C node) s))] (h ++ (.lst (Xj.map eQ) :: .lst (Mj.map eQ) :: J) ++ [.lst (((kd ps node).map fun k => -X k).map eQ)]) = .ok (eQ (X node)) (h ++ (.lst (Xj.map eQ) :: .lst (Mj.map eQ) :: J) ++ [.lst (((kd ps node).map fun k => -X k).map eQ)]) := by rw [e_Ladd or ow, hx]
        have s2 : setD (.lst h.length) (.int node) (eQ (X node)) (h ++ (.lst (Xj.map eQ) :: .lst (Mj.map eQ) :: J) ++ [.lst (((kd ps node).map fun k => -X k).map eQ)]) = .ok () (h ++ (.lst (X'.map eQ) :: .lst (Mj.map eQ) :: (J ++ [.lst (((kd ps node).map fun k => -X k).map eQ)]))) := by
          have : h ++ (HE.lst (Xj.map eQ) :: .lst (Mj.map eQ) :: J) ++ [HE.lst (((kd ps node).map fun k => -X k).map eQ)] = h ++ (.lst (Xj.map eQ) :: (.lst (Mj.map eQ) :: (J ++ [.lst (((kd ps node).map fun k => -X k).map eQ)]))) := by simp
          rw [this, setD_eQ (by omega), sX]
        -- most
        generalize hJ2 : J ++ [HE.lst (((kd ps node).map fun k => -X k).map eQ)] = J2 at s2
        have hJ2' : Pur J2 := by rw [← hJ2]; exact hJ.push (eQs_pu _)
        have pJ2 : Pur (.lst (X'.map eQ) :: .lst (Mj.map eQ) :: J2) := fun e m => by
          rcases List.mem_cons.mp m with rfl | m
          · exact ⟨_, rfl, eQs_pu _⟩
          · rcases List.mem_cons.mp m with rfl | m
            · exact ⟨_, rfl, eQs_pu _⟩
            · exact hJ2' e m
        have c3 := clo_pur c pJ2
        have K2 : KL (h ++ (.lst (X'.map eQ) :: .lst (Mj.map eQ) :: J2)) kl ps := K.app
        obtain ⟨id2, j0, gk2⟩ := K2.ix lsX
        have g2 : (h ++ (HE.lst (X'.map eQ) :: .lst (Mj.map eQ) :: J2))[h.length + 1]? = some (.lst (Mj.map eQ)) := get_1
        have b6 := fLc_mpy (own := [9]) (fe := fOp dIx (fVar 4) (fVar 7)) (tgt := gNm 9) (elt := fOp dIx (fVar 6) (fVar 9)) (σ := [some t, some (eT C), some (eQ s), some (eR rw'), some kl, some (.lst h.length), some (.lst (h.length + 1)), some (.int node), some (.lst (h ++ (HE.lst (Xj.map eQ) :: .lst (Mj.map eQ) :: J)).length), none]) (h := h ++ (.lst (X'.map eQ) :: .lst (Mj.map eQ) :: J2)) (d := .lst id2) eI (kd ps node) (sqn_l gk2) (by simp only [ev_c, ev_var, ev_nil, ev_cons, ev_tup, ev_lst, ev_op, ev_tst, ev_toB, ev_tru, ev_andT, ev_orT, ev_notT, ev_andV, ev_orV, ev_notV, ev_neg, ev_ifE, ev_no, ev_so, ev_sl, ev_cb, ev_isi, ev_mt, ev_lr1, ev_gc, ev_gct, ev_call, ev_nx, ev_seq, ev_exp, ev_ret, ev_if, ev_set, ev_asg, ev_par, ev_gnm, ev_gsb, ev_gsnil, ev_gscons, ev_gtp, ev_yes, ev_retR_rt, bind_ok, List.getElem?_cons_zero, List.getElem?_cons_succ, List.set_cons_zero, List.set_cons_succ, List.length_cons, List.length_nil, Nat.reduceAdd, Nat.reduceLeDiff, if_true, gc_same, gct_same, v_truB, Sm.v_add, Sm.v_sub, isL_lst, decide_true, decide_false, Bool.not_true, Bool.not_false, Bool.false_eq_true, if_false, j0]) (by omega) (fun k => eQ (M k)) (by
          intro k mk
          have hk2 := kids k mk
          have i2 : dIx (.lst (h.length + 1)) (.int k) (h ++ (.lst (X'.map eQ) :: .lst (Mj.map eQ) :: J2)) = .ok (eQ (M k)) (h ++ (.lst (X'.map eQ) :: .lst (Mj.map eQ) :: J2)) := v_ixM (sqn_l g2) (gM k hk2.1 hk2.2)
          refine ⟨_, rfl, ?_⟩
          simp only [wipeD, ev_c, ev_var, ev_nil, ev_cons, ev_tup, ev_lst, ev_op, ev_tst, ev_toB, ev_tru, ev_andT, ev_orT, ev_notT, ev_andV, ev_orV, ev_notV, ev_neg, ev_ifE, ev_no, ev_so, ev_sl, ev_cb, ev_isi, ev_mt, ev_lr1, ev_gc, ev_gct, ev_call, ev_nx, ev_seq, ev_exp, ev_ret, ev_if, ev_set, ev_asg, ev_par, ev_gnm, ev_gsb, ev_gsnil, ev_gscons, ev_gtp, ev_yes, ev_retR_rt, bind_ok, List.getElem?_cons_zero, List.getElem?_cons_succ, List.set_cons_zero, List.set_cons_succ, List.length_cons, List.length_nil, Nat.reduceAdd, Nat.reduceLeDiff, if_true, gc_same, gct_same, v_truB, Sm.v_add, Sm.v_sub, isL_lst, decide_true, decide_false, Bool.not_true, Bool.not_false, Bool.false_eq_true, if_false, eI, i2])
        have em2 : (kd ps node).map (fun k => eQ (M k)) = ((kd ps node).map M).map eQ := by simp
        rw [em2] at b6
        obtain ⟨k1, ks, hks⟩ : ∃ k1 ks, kd ps node = k1 :: ks := List.exists_cons_of_ne_nil hkn
        have b7 : m_Lmost [.lst (h ++ (HE.lst (X'.map eQ) :: .lst (Mj.map eQ) :: J2)).length] (h ++ (.lst (X'.map eQ) :: .lst (Mj.map eQ) :: J2) ++ [.lst (((kd ps node).map M).map eQ)]) = .ok (eQ (mxF (M k1) (ks.map M))) (h ++ (.lst (X'.map eQ) :: .lst (Mj.map eQ) :: J2) ++ [.lst (((kd ps node).map M).map eQ)]) := by
          rw [hks]
          exact e_Lmost (q := M k1) (qs := ks.map M) sqn_new (fun q m => by
            rcases List.mem_cons.mp m with rfl | m
            · exact zM _
            · obtain ⟨i, _, rfl⟩ := List.mem_map.mp m; exact zM i)
        have omx : Ok (mxF (M k1) (ks.map M)) := by
          rcases mxF_mem (q := M k1) (qs := ks.map M) with e | e
          · rw [e]; exact zM k1
          · obtain ⟨i, _, e⟩ := List.mem_map.mp e
            rw [← e]; exact zM i
        have b8 : m_Ladd [eQ (Vf rw' node), eQ (mxF (M k1) (ks.map M))] (h ++ (.lst (X'.map eQ) :: .lst (Mj.map eQ) :: J2)) = .ok (eQ (M node)) (h ++ (.lst (X'.map eQ) :: .lst (Mj.map eQ) :: J2)) := by rw [e_Ladd or omx, hm.2 k1 ks hks]
        have s3 : setD (.lst (h.length + 1)) (.int node) (eQ (M node)) (h ++ (.lst (X'.map eQ) :: .lst (Mj.map eQ) :: J2)) = .ok () (h ++ (.lst (X'.map eQ) :: .lst (M'.map eQ) :: J2)) := by
          have e1 : h ++ (HE.lst (X'.map eQ) :: .lst (Mj.map eQ) :: J2) = h ++ [HE.lst (X'.map eQ)] ++ (.lst (Mj.map eQ) :: J2) := by simp
          have e2 : h ++ (HE.lst (X'.map eQ) :: .lst (M'.map eQ) :: J2) = h ++ [HE.lst (X'.map eQ)] ++ (.lst (M'.map eQ) :: J2) := by simp
          have e3 : h.length + 1 = (h ++ [HE.lst (X'.map eQ)]).length := by simp
          rw [e1, e2, e3, setD_eQ (by omega), sM]
        refine ⟨_, _, [some t, some (eT C), some (eQ s), some (eR rw'), some kl, some (.lst h.length), some (.lst (h.length + 1)), some (.int node), some (.lst (h ++ (HE.lst (Xj.map eQ) :: .lst (Mj.map eQ) :: J)).length), none], h ++ (.lst (X'.map eQ) :: .lst (M'.map eQ) :: J2), rfl, ?_, J2, some (.int node), _, rfl, rfl, hJ2'⟩
        simp only [ev_c, ev_var, ev_nil, ev_cons, ev_tup, ev_lst, ev_op, ev_tst, ev_toB, ev_tru, ev_andT, ev_orT, ev_notT, ev_andV, ev_orV, ev_notV, ev_neg, ev_ifE, ev_no, ev_so, ev_sl, ev_cb, ev_isi, ev_mt, ev_lr1, ev_gc, ev_gct, ev_call, ev_nx, ev_seq, ev_exp, ev_ret, ev_if, ev_set, ev_asg, ev_par, ev_gnm, ev_gsb, ev_gsnil, ev_gscons, ev_gtp, ev_yes, ev_retR_rt, bind_ok, List.getElem?_cons_zero, List.getElem?_cons_succ, List.set_cons_zero, List.set_cons_succ, List.length_cons, List.length_nil, Nat.reduceAdd, Nat.reduceLeDiff, if_true, gc_same, gct_same, v_truB, Sm.v_add, Sm.v_sub, isL_lst, decide_true, decide_false, Bool.not_true, Bool.not_false, Bool.false_eq_true, if_false, i0, ea, en, b1, gc_np c1 (eQs_pu _), i1, i3, b3, b4', e_Lneg, b5, s2, b6, gc_np c3 (eQs_pu _), b7, gc_dp c3 (eQ_pu _), b8, s3])
  refine ⟨J, z7, z8, ?_, hJ⟩
  rw [e, eh, md_all, md_all]
end
end Lw

/-! k47_EG: the law's costs and quotients. -/
namespace Lw
open PySem PySem.Spec PyProof.Rows L2 Sm Sq
theorem ne_eQs {h : MH} {n m : Nat} {qs : List Rat} (e1 : h[n]? = some (.lst (qs.map eQ))) (e2 : h[m]? = some (.lst (qs.map eQ))) : dNe (.lst n) (.lst m) h = .ok (.bl false) h := by
  rw [v_neL e1 e2 (flatL_eQs _) (flatL_eQs _)]
  simp
section
variable {ps : List (Option Nat)} {C : List (List Rat)} {dp : Nat → Nat} {s : Rat} {rw' : List Rat} {t kl : D} {h : MH} {w : Nat → Rat}
theorem e_Lcosts_told (c : Clo h) (W : WF ps) (T : TreeD t ps) (H : CH ps C) (wt : WT ps C w) (hd : ∀ k p, ps[k]? = some (some p) → dp k = dp p + 1) (hd3 : ∀ k, dp k ≤ 3) (zs : Sz 7 s) (s0 : 0 < s) (s1 : s ≤ 1) (lr : rw'.length = ps.length) (zr : SzL 2 rw') (K : KL h kl ps) :
    m_Lcosts_told [t, eT C, eQ s, eR rw', kl] h = .ok (.bl true) h := by
  have wlen := W.len
  have hr : ∀ k, Sz 2 (Vf rw' k) := fun k => sz_Vf zr (by decide) k
  -- the costs, the greatest sums
  obtain ⟨X, hX, z⟩ : ∃ X, Cst' ps C s (Vf rw') X ∧ Szs ps dp X := ⟨_, cst_ok hd hd3, fun k l => cst_sz W H hd hd3 zs s0 hr _ k l (by omega)⟩
  obtain ⟨Y, hY, zY⟩ : ∃ X, Cst' ps C 1 (Vf rw') X ∧ Szs ps dp X := ⟨_, cst_ok hd hd3, fun k l => cst_sz W H hd hd3 (sz_1.mono (by decide)) (by decide) hr _ k l (by omega)⟩
  have sz100 : Sz 7 (Q 1 100) := sz_divInt (by decide) (by decide) (by decide)
  have p100 : 0 < Q 1 100 := by decide
  obtain ⟨Z, hZ, zZ⟩ : ∃ X, Cst' ps C (Q 1 100) (Vf rw') X ∧ Szs ps dp X := ⟨_, cst_ok hd hd3, fun k l => cst_sz W H hd hd3 sz100 p100 hr _ k l (by omega)⟩
  obtain ⟨M, hM, zM⟩ : ∃ M, Mst ps (Vf rw') M ∧ ∀ k, Ok (M k) := ⟨_, mst_ok hd hd3, fun k => (mst_sz hr _ k).mono (by omega)⟩
  have hZM := mst_unique W (cost_small W H hd zZ p100 (by decide +kernel) hZ) hM 0 W.pos
  have hYm := cost_mean W H wt hd zY hY
  have hXm := cost_ge W H wt hd z s0 s1 hX
  have hXM := cost_le W H hd z s0 s1 hX hM 0 W.pos
  have okX : Ok (X 0) := (z 0 W.pos).mono (Nat.le_trans (cz_le (by omega)) (by decide))
  obtain ⟨J, z7, z8, el, hJ⟩ := costs_loop (t := t) c W H hd hd3 zs s0 lr zr K z hX hM zM
  have pJ : Pur (.lst (((List.range ps.length).map X).map eQ) :: .lst (((List.range ps.length).map M).map eQ) :: J) := fun e m => by
    rcases List.mem_cons.mp m with rfl | m
    · exact ⟨_, rfl, eQs_pu _⟩
    · rcases List.mem_cons.mp m with rfl | m
      · exact ⟨_, rfl, eQs_pu _⟩
      · exact hJ e m
  have c1 := clo_pur c pJ
  have g0 : (h ++ (HE.lst (((List.range ps.length).map X).map eQ) :: .lst (((List.range ps.length).map M).map eQ) :: J))[h.length]? = some (.lst (((List.range ps.length).map X).map eQ)) := get_0
  have g1 : (h ++ (HE.lst (((List.range ps.length).map X).map eQ) :: .lst (((List.range ps.length).map M).map eQ) :: J))[h.length + 1]? = some (.lst (((List.range ps.length).map M).map eQ)) := get_1
  unfold m_Lcosts_told mOf b_Lcosts_told
  have hst : startD 10 [t, eT C, eQ s, eR rw', kl] = [some t, some (eT C), some (eQ s), some (eR rw'), some kl, none, none, none, none, none] := rfl
  rw [hst]
  have l1 := v_list (h := h) (qs := rw') (by omega)
  have l2 := v_list (h := h ++ [.lst (rw'.map eQ)]) (qs := rw') (by omega)
  have c0 : Clo (h ++ [.lst (rw'.map eQ)]) := clo1 c (eQs_pu _)
  rw [seq_nx (σ1 := [some t, some (eT C), some (eQ s), some (eR rw'), some kl, some (.lst h.length), some (.lst (h.length + 1)), none, none, none]) (h1 := h ++ [.lst (rw'.map eQ), .lst (rw'.map eQ)])]
  rotate_left
  · simp only [ev_c, ev_var, ev_nil, ev_cons, ev_tup, ev_lst, ev_op, ev_tst, ev_toB, ev_tru, ev_andT, ev_orT, ev_notT, ev_andV, ev_orV, ev_notV, ev_neg, ev_ifE, ev_no, ev_so, ev_sl, ev_cb, ev_isi, ev_mt, ev_lr1, ev_gc, ev_gct, ev_call, ev_nx, ev_seq, ev_exp, ev_ret, ev_if, ev_set, ev_asg, ev_par, ev_gnm, ev_gsb, ev_gsnil, ev_gscons, ev_gtp, ev_yes, ev_retR_rt, bind_ok, List.getElem?_cons_zero, List.getElem?_cons_succ, List.set_cons_zero, List.set_cons_succ, List.length_cons, List.length_nil, Nat.reduceAdd, Nat.reduceLeDiff, if_true, gc_same, gct_same, v_truB, Sm.v_add, Sm.v_sub, isL_lst, decide_true, decide_false, Bool.not_true, Bool.not_false, Bool.false_eq_true, if_false, l1, gc_np c (eQs_pu _), l2, gc_np c0 (eQs_pu _)]
    simp
  rw [seq_nx el]
  have i0 : dIx (.lst h.length) (.int 0) (h ++ (.lst (((List.range ps.length).map X).map eQ) :: .lst (((List.range ps.length).map M).map eQ) :: J)) = .ok (eQ (X 0)) (h ++ (.lst (((List.range ps.length).map X).map eQ) :: .lst (((List.range ps.length).map M).map eQ) :: J)) := v_ix (dI_lst g0) (atI_nat' (n := 0) (by have := W.pos; simp [this]))
  have i1 : dIx (.lst (h.length + 1)) (.int 0) (h ++ (.lst (((List.range ps.length).map X).map eQ) :: .lst (((List.range ps.length).map M).map eQ) :: J)) = .ok (eQ (M 0)) (h ++ (.lst (((List.range ps.length).map X).map eQ) :: .lst (((List.range ps.length).map M).map eQ) :: J)) := v_ix (dI_lst g1) (atI_nat' (n := 0) (by have := W.pos; simp [this]))
  generalize hH : h ++ (HE.lst (((List.range ps.length).map X).map eQ) :: .lst (((List.range ps.length).map M).map eQ) :: J) = G at c1 g0 g1 i0 i1
  have e1 := e_worst_costs c1 W T H hd hd3 zs s0 lr zr z hX
  have e2 := e_worst_cost c1 W T H hd hd3 zs s0 lr zr z hX
  have n1 : dNe (.lst G.length) (.lst h.length) (G ++ [.lst (((List.range ps.length).map X).map eQ)]) = .ok (.bl false) (G ++ [.lst (((List.range ps.length).map X).map eQ)]) := ne_eQs (qs := (List.range ps.length).map X) (by simp) (by rw [List.getElem?_append_left (List.getElem?_eq_some_iff.mp g0).1]; exact g0)
  rw [seq_nx (σ1 := [some t, some (eT C), some (eQ s), some (eR rw'), some kl, some (.lst h.length), some (.lst (h.length + 1)), z7, z8, none]) (h1 := G)]
  rotate_left
  · rw [if_f (h1 := G)]
    · rfl
    · refine or_f (h1 := G) ?_ ?_
      · simp only [ev_c, ev_var, ev_nil, ev_cons, ev_tup, ev_lst, ev_op, ev_tst, ev_toB, ev_tru, ev_andT, ev_orT, ev_notT, ev_andV, ev_orV, ev_notV, ev_neg, ev_ifE, ev_no, ev_so, ev_sl, ev_cb, ev_isi, ev_mt, ev_lr1, ev_gc, ev_gct, ev_call, ev_nx, ev_seq, ev_exp, ev_ret, ev_if, ev_set, ev_asg, ev_par, ev_gnm, ev_gsb, ev_gsnil, ev_gscons, ev_gtp, ev_yes, ev_retR_rt, bind_ok, List.getElem?_cons_zero, List.getElem?_cons_succ, List.set_cons_zero, List.set_cons_succ, List.length_cons, List.length_nil, Nat.reduceAdd, Nat.reduceLeDiff, if_true, gc_same, gct_same, v_truB, Sm.v_add, Sm.v_sub, isL_lst, decide_true, decide_false, Bool.not_true, Bool.not_false, Bool.false_eq_true, if_false, e1, gc_np c1 (eQs_pu _), n1, gct_drop c1]
      · simp only [ev_c, ev_var, ev_nil, ev_cons, ev_tup, ev_lst, ev_op, ev_tst, ev_toB, ev_tru, ev_andT, ev_orT, ev_notT, ev_andV, ev_orV, ev_notV, ev_neg, ev_ifE, ev_no, ev_so, ev_sl, ev_cb, ev_isi, ev_mt, ev_lr1, ev_gc, ev_gct, ev_call, ev_nx, ev_seq, ev_exp, ev_ret, ev_if, ev_set, ev_asg, ev_par, ev_gnm, ev_gsb, ev_gsnil, ev_gscons, ev_gtp, ev_yes, ev_retR_rt, bind_ok, List.getElem?_cons_zero, List.getElem?_cons_succ, List.set_cons_zero, List.set_cons_succ, List.length_cons, List.length_nil, Nat.reduceAdd, Nat.reduceLeDiff, if_true, gc_same, gct_same, v_truB, Sm.v_add, Sm.v_sub, isL_lst, decide_true, decide_false, Bool.not_true, Bool.not_false, Bool.false_eq_true, if_false, e2, i0, ne_eQ]
  have e3 := e_greatest_cost c1 W T hd hd3 lr zr hM zM
  have el2 : ∀ H : MH, cLen [eR rw'] H = .ok (.int ps.length) H := fun H => by rw [v_lenM (d := eR rw') (e := eQ) (xs := rw') sqn_t, lr]
  have e4 := fLc_rg (own := [9]) (fa := fCB cLen (fCons (fVar 3) fNil)) (tgt := gNm 9) (elt := fGc (fCall 3 (m_greatest_from 24) (fCons (fVar 0) (fCons (fVar 3) (fCons (fVar 9) fNil))))) (σ := [some t, some (eT C), some (eQ s), some (eR rw'), some kl, some (.lst h.length), some (.lst (h.length + 1)), z7, z8, none]) (h := G) (n := ps.length) (by simp only [ev_c, ev_var, ev_nil, ev_cons, ev_tup, ev_lst, ev_op, ev_tst, ev_toB, ev_tru, ev_andT, ev_orT, ev_notT, ev_andV, ev_orV, ev_notV, ev_neg, ev_ifE, ev_no, ev_so, ev_sl, ev_cb, ev_isi, ev_mt, ev_lr1, ev_gc, ev_gct, ev_call, ev_nx, ev_seq, ev_exp, ev_ret, ev_if, ev_set, ev_asg, ev_par, ev_gnm, ev_gsb, ev_gsnil, ev_gscons, ev_gtp, ev_yes, ev_retR_rt, bind_ok, List.getElem?_cons_zero, List.getElem?_cons_succ, List.set_cons_zero, List.set_cons_succ, List.length_cons, List.length_nil, Nat.reduceAdd, Nat.reduceLeDiff, if_true, gc_same, gct_same, v_truB, Sm.v_add, Sm.v_sub, isL_lst, decide_true, decide_false, Bool.not_true, Bool.not_false, Bool.false_eq_true, if_false, el2]) (by omega) (fun k => eQ (M k)) (by
    intro k hk
    refine ⟨_, rfl, ?_⟩
    have e := e_greatest_from W T hd hd3 lr zr hM zM 24 k G c1 hk (by omega)
    simp only [wipeD, ev_c, ev_var, ev_nil, ev_cons, ev_tup, ev_lst, ev_op, ev_tst, ev_toB, ev_tru, ev_andT, ev_orT, ev_notT, ev_andV, ev_orV, ev_notV, ev_neg, ev_ifE, ev_no, ev_so, ev_sl, ev_cb, ev_isi, ev_mt, ev_lr1, ev_gc, ev_gct, ev_call, ev_nx, ev_seq, ev_exp, ev_ret, ev_if, ev_set, ev_asg, ev_par, ev_gnm, ev_gsb, ev_gsnil, ev_gscons, ev_gtp, ev_yes, ev_retR_rt, bind_ok, List.getElem?_cons_zero, List.getElem?_cons_succ, List.set_cons_zero, List.set_cons_succ, List.length_cons, List.length_nil, Nat.reduceAdd, Nat.reduceLeDiff, if_true, gc_same, gct_same, v_truB, Sm.v_add, Sm.v_sub, isL_lst, decide_true, decide_false, Bool.not_true, Bool.not_false, Bool.false_eq_true, if_false, e])
  have em : (List.range ps.length).map (fun k => eQ (M k)) = ((List.range ps.length).map M).map eQ := by simp
  rw [em] at e4
  have n2 : dNe (.lst G.length) (.lst (h.length + 1)) (G ++ [.lst (((List.range ps.length).map M).map eQ)]) = .ok (.bl false) (G ++ [.lst (((List.range ps.length).map M).map eQ)]) := ne_eQs (qs := (List.range ps.length).map M) (by simp) (by rw [List.getElem?_append_left (List.getElem?_eq_some_iff.mp g1).1]; exact g1)
  rw [seq_nx (σ1 := [some t, some (eT C), some (eQ s), some (eR rw'), some kl, some (.lst h.length), some (.lst (h.length + 1)), z7, z8, none]) (h1 := G)]
  rotate_left
  · rw [if_f (h1 := G)]
    · rfl
    · refine or_f (h1 := G) ?_ ?_
      · simp only [ev_c, ev_var, ev_nil, ev_cons, ev_tup, ev_lst, ev_op, ev_tst, ev_toB, ev_tru, ev_andT, ev_orT, ev_notT, ev_andV, ev_orV, ev_notV, ev_neg, ev_ifE, ev_no, ev_so, ev_sl, ev_cb, ev_isi, ev_mt, ev_lr1, ev_gc, ev_gct, ev_call, ev_nx, ev_seq, ev_exp, ev_ret, ev_if, ev_set, ev_asg, ev_par, ev_gnm, ev_gsb, ev_gsnil, ev_gscons, ev_gtp, ev_yes, ev_retR_rt, bind_ok, List.getElem?_cons_zero, List.getElem?_cons_succ, List.set_cons_zero, List.set_cons_succ, List.length_cons, List.length_nil, Nat.reduceAdd, Nat.reduceLeDiff, if_true, gc_same, gct_same, v_truB, Sm.v_add, Sm.v_sub, isL_lst, decide_true, decide_false, Bool.not_true, Bool.not_false, Bool.false_eq_true, if_false, e3, i1, ne_eQ]
      · simp only [ev_c, ev_var, ev_nil, ev_cons, ev_tup, ev_lst, ev_op, ev_tst, ev_toB, ev_tru, ev_andT, ev_orT, ev_notT, ev_andV, ev_orV, ev_notV, ev_neg, ev_ifE, ev_no, ev_so, ev_sl, ev_cb, ev_isi, ev_mt, ev_lr1, ev_gc, ev_gct, ev_call, ev_nx, ev_seq, ev_exp, ev_ret, ev_if, ev_set, ev_asg, ev_par, ev_gnm, ev_gsb, ev_gsnil, ev_gscons, ev_gtp, ev_yes, ev_retR_rt, bind_ok, List.getElem?_cons_zero, List.getElem?_cons_succ, List.set_cons_zero, List.set_cons_succ, List.length_cons, List.length_nil, Nat.reduceAdd, Nat.reduceLeDiff, if_true, gc_same, gct_same, v_truB, Sm.v_add, Sm.v_sub, isL_lst, decide_true, decide_false, Bool.not_true, Bool.not_false, Bool.false_eq_true, if_false, e4, gc_np c1 (eQs_pu _), n2, gct_drop c1]
  have h11 : (D.tup [.int 1, .int 1]) = eQ 1 := rfl
  have e5 := e_worst_cost c1 W T H hd hd3 (sz_1.mono (show 1 ≤ 7 by decide)) (by decide) lr zr zY hY
  have e6 := e_worst_cost c1 W T H hd hd3 sz100 p100 lr zr zZ hZ
  obtain ⟨e7, okm⟩ := e_mean c1 W T H wt hd hd3 lr zr
  rw [hYm] at e5
  rw [hZM] at e6
  rw [seq_nx (σ1 := [some t, some (eT C), some (eQ s), some (eR rw'), some kl, some (.lst h.length), some (.lst (h.length + 1)), z7, z8, none]) (h1 := G)]
  rotate_left
  · rw [if_f (h1 := G)]
    · rfl
    · refine or_f (h1 := G) ?_ ?_
      · simp only [ev_c, ev_var, ev_nil, ev_cons, ev_tup, ev_lst, ev_op, ev_tst, ev_toB, ev_tru, ev_andT, ev_orT, ev_notT, ev_andV, ev_orV, ev_notV, ev_neg, ev_ifE, ev_no, ev_so, ev_sl, ev_cb, ev_isi, ev_mt, ev_lr1, ev_gc, ev_gct, ev_call, ev_nx, ev_seq, ev_exp, ev_ret, ev_if, ev_set, ev_asg, ev_par, ev_gnm, ev_gsb, ev_gsnil, ev_gscons, ev_gtp, ev_yes, ev_retR_rt, bind_ok, List.getElem?_cons_zero, List.getElem?_cons_succ, List.set_cons_zero, List.set_cons_succ, List.length_cons, List.length_nil, Nat.reduceAdd, Nat.reduceLeDiff, if_true, gc_same, gct_same, v_truB, Sm.v_add, Sm.v_sub, isL_lst, decide_true, decide_false, Bool.not_true, Bool.not_false, Bool.false_eq_true, if_false, h11, e5, e7, ne_eQ]
      · simp only [ev_c, ev_var, ev_nil, ev_cons, ev_tup, ev_lst, ev_op, ev_tst, ev_toB, ev_tru, ev_andT, ev_orT, ev_notT, ev_andV, ev_orV, ev_notV, ev_neg, ev_ifE, ev_no, ev_so, ev_sl, ev_cb, ev_isi, ev_mt, ev_lr1, ev_gc, ev_gct, ev_call, ev_nx, ev_seq, ev_exp, ev_ret, ev_if, ev_set, ev_asg, ev_par, ev_gnm, ev_gsb, ev_gsnil, ev_gscons, ev_gtp, ev_yes, ev_retR_rt, bind_ok, List.getElem?_cons_zero, List.getElem?_cons_succ, List.set_cons_zero, List.set_cons_succ, List.length_cons, List.length_nil, Nat.reduceAdd, Nat.reduceLeDiff, if_true, gc_same, gct_same, v_truB, Sm.v_add, Sm.v_sub, isL_lst, decide_true, decide_false, Bool.not_true, Bool.not_false, Bool.false_eq_true, if_false, eQ_100, e6, i1, ne_eQ]
  have f1 := e_Lless okX okm G
  rw [decide_eq_false (Rat.not_lt.mpr hXm)] at f1
  have f2 := e_Lless (zM 0) okX G
  rw [decide_eq_false (Rat.not_lt.mpr hXM)] at f2
  simp only [ev_c, ev_var, ev_nil, ev_cons, ev_tup, ev_lst, ev_op, ev_tst, ev_toB, ev_tru, ev_andT, ev_orT, ev_notT, ev_andV, ev_orV, ev_notV, ev_neg, ev_ifE, ev_no, ev_so, ev_sl, ev_cb, ev_isi, ev_mt, ev_lr1, ev_gc, ev_gct, ev_call, ev_nx, ev_seq, ev_exp, ev_ret, ev_if, ev_set, ev_asg, ev_par, ev_gnm, ev_gsb, ev_gsnil, ev_gscons, ev_gtp, ev_yes, ev_retR_rt, bind_ok, List.getElem?_cons_zero, List.getElem?_cons_succ, List.set_cons_zero, List.set_cons_succ, List.length_cons, List.length_nil, Nat.reduceAdd, Nat.reduceLeDiff, if_true, gc_same, gct_same, v_truB, Sm.v_add, Sm.v_sub, isL_lst, decide_true, decide_false, Bool.not_true, Bool.not_false, Bool.false_eq_true, if_false, i0, i1, e7, f1, f2]
  rw [← hH]
  exact gc_dp c rfl
end
section
variable {b g : MH} {ps : List (Option Nat)} {C : List (List Rat)} {t kl : D}
theorem Chn_pos {n : Nat} {cs : List Rat} (h : Chn n cs) : ∀ q ∈ cs, 0 < q := fun q m => by have := h.2.2.1 q m; grind
theorem CH.pos (H : CH ps C) : Pos C := fun k q m => by
  by_cases l : k < ps.length
  · by_cases h : kd ps k = []
    · rw [H.none k l h] at m; cases m
    · exact Chn_pos (H.some k l h) q m
  · have : cAt C k = [] := by unfold cAt; rw [List.getElem?_eq_none (by rw [H.len]; omega)]; rfl
    rw [this] at m; cases m
theorem CH.row (H : CH ps C) {k : Nat} (l : k < ps.length) : (cAt C k).length = (kd ps k).length := by
  by_cases h : kd ps k = []
  · rw [H.none k l h, h]; rfl
  · exact (H.some k l h).1
/-- rows drawn at all nodes -/
theorem rows_CH {vd : List D} (l : vd.length = ps.length) (h : ∀ (j : Nat) (v : D), vd[j]? = some v → ∃ cs, v = eR cs ∧ (kd ps j = [] → cs = []) ∧ (kd ps j ≠ [] → Chn (kd ps j).length cs)) : ∃ O, vd = O.map eR ∧ CH ps O := by
  have : ∃ O : List (List Rat), vd = O.map eR ∧ ∀ j, j < vd.length → (kd ps j = [] → cAt O j = []) ∧ (kd ps j ≠ [] → Chn (kd ps j).length (cAt O j)) := by
    let f : Nat → List Rat := fun j => match vd[j]? with
      | some (.tup ds) => ds.map fun d => match d with | .tup [.int u, .int v] => Rat.divInt u v | _ => 0
      | _ => []
    have hf : ∀ j (v : D), vd[j]? = some v → v = eR (f j) := fun j v e => by
      obtain ⟨cs, rfl, _⟩ := h j v e
      have : f j = cs := by
        show (match vd[j]? with | some (.tup ds) => ds.map (fun d => match d with | .tup [.int u, .int v] => Rat.divInt u v | _ => 0) | _ => []) = cs
        rw [e]
        show (cs.map eQ).map (fun d => match d with | .tup [.int u, .int v] => Rat.divInt u v | _ => 0) = cs
        rw [List.map_map]
        conv => rhs; rw [← List.map_id cs]
        apply List.map_congr_left
        intro q _
        exact Rat.num_divInt_den q
      rw [this]
    refine ⟨(List.range vd.length).map f, ?_, fun j hj => ?_⟩
    · apply List.ext_getElem?
      intro i
      by_cases hi : i < vd.length
      · rw [List.getElem?_eq_getElem hi, hf i _ (List.getElem?_eq_getElem hi)]; simp [hi]
      · rw [List.getElem?_eq_none (by omega), List.getElem?_eq_none (by simp; omega)]
    · have e := List.getElem?_eq_getElem hj
      obtain ⟨cs, a, a1, a2⟩ := h j _ e
      have hc : cs = f j := eR_inj.mp (a.symm.trans (hf j _ e))
      have : cAt ((List.range vd.length).map f) j = cs := by rw [hc]; unfold cAt; simp [hj]
      rw [this]; exact ⟨a1, a2⟩
  obtain ⟨O, rfl, hO⟩ := this
  rw [List.length_map] at l
  exact ⟨O, rfl, ⟨l, fun k hk => (hO k (by simpa [l] using hk)).1, fun k hk => (hO k (by simpa [l] using hk)).2⟩⟩
end
end Lw

/-! k47_EH: the law's quotients; weights as a function. -/
namespace Lw
open PySem PySem.Spec PyProof.Rows L2 Sm Sq
/-- the rows of nodes ahead, whatever the state -/
def KS (b g : MH) (d : D) (ps : List (Option Nat)) : Prop := ∃ (n : Nat) (ids : List Nat), d = .lst n ∧ (∀ S, (SH b S g)[n]? = some (.lst (ids.map D.lst))) ∧ ids.length = ps.length ∧ ∀ k, k < ps.length → ∃ id : Nat, ids[k]? = some id ∧ ∀ S, (SH b S g)[id]? = some (.lst ((kd ps k).map eI))
theorem KS.kl {b g : MH} {d : D} {ps : List (Option Nat)} (K : KS b g d ps) (S : List Int × Int) : KL (SH b S g) d ps := by
  obtain ⟨n, ids, rfl, e, l, H⟩ := K
  refine ⟨n, ids, rfl, e S, l, fun k hk => ?_⟩
  obtain ⟨id, a, b⟩ := H k hk
  exact ⟨id, a, b S⟩
theorem KS.app {b g j : MH} {d : D} {ps : List (Option Nat)} (K : KS b g d ps) : KS b (g ++ j) d ps := by
  obtain ⟨n, ids, rfl, e, l, H⟩ := K
  refine ⟨n, ids, rfl, fun S => by rw [SH_assoc, List.getElem?_append_left (List.getElem?_eq_some_iff.mp (e S)).1]; exact e S, l, fun k hk => ?_⟩
  obtain ⟨id, a, b⟩ := H k hk
  exact ⟨id, a, fun S => by rw [SH_assoc, List.getElem?_append_left (List.getElem?_eq_some_iff.mp (b S)).1]; exact b S⟩
/-- the weights as a function -/
def wF (ps : List (Option Nat)) (C : List (List Rat)) : Nat → Nat → Rat
  | 0, _ => 1
  | d + 1, k => match ps[k]? with
    | some (some p) => wF ps C d p * cc ps C p k
    | _ => 1
section
variable {b g : MH} {ps : List (Option Nat)} {C : List (List Rat)} {t kl : D} {dp : Nat → Nat}
theorem wF_ok (W : WF ps) (hd : ∀ k p, ps[k]? = some (some p) → dp k = dp p + 1) : WT ps C fun k => wF ps C (dp k) k := by
  refine ⟨?_, fun k p e => ?_⟩
  · show wF ps C (dp 0) 0 = 1
    cases dp 0 with
    | zero => rfl
    | succ d => rw [wF, W.root]
  · show wF ps C (dp k) k = wF ps C (dp p) p * cc ps C p k
    rw [hd k p e, wF, e]
/-- one node's chances drawn, or none -/
theorem draw_row {S : List Int × Int} (hS : Gd S) (cb : CloS b g) (W : WF ps) (K : KS b g kl ps) {k : Nat} (l : k < ps.length) {σ : Sg} {fe : FE} (h0 : σ[0]? = some (some (.lst (b.length + 1)))) (he : ∀ S, ∃ id : Nat, fe σ (SH b S g) = .ok (.lst id) (SH b S g) ∧ (SH b S g)[id]? = some (.lst ((kd ps k).map eI))) :
    Drw b g (fun v => ∃ cs, v = eR cs ∧ (kd ps k = [] → cs = []) ∧ (kd ps k ≠ [] → Chn (kd ps k).length cs)) (fIfE (fGcT (fTst (fOp dNe fe (fLst fNil)))) (fGc (fCall 2 m_Lchances (fCons (fVar 0) (fCons (fCB cLen (fCons fe fNil)) fNil)))) (fTup fNil) σ (SH b S g)) := by
  obtain ⟨id, e, gk⟩ := he S
  have ea : allocD [] (SH b S g) = .ok (.lst (SH b S g).length) (SH b S g ++ [.lst []]) := v_alloc (by simp)
  have en := ne_nil (cb S) gk
  by_cases hk : kd ps k = []
  · rw [hk, decide_eq_true rfl, Bool.not_true] at en
    refine ⟨eR [], S, ?_, hS, [], rfl, fun _ => rfl, fun z => absurd hk z⟩
    simp only [ev_c, ev_var, ev_nil, ev_cons, ev_tup, ev_lst, ev_op, ev_tst, ev_toB, ev_tru, ev_andT, ev_orT, ev_notT, ev_andV, ev_orV, ev_notV, ev_neg, ev_ifE, ev_no, ev_so, ev_sl, ev_cb, ev_isi, ev_mt, ev_lr1, ev_gc, ev_gct, ev_call, ev_nx, ev_seq, ev_exp, ev_ret, ev_if, ev_set, ev_asg, ev_par, ev_gnm, ev_gsb, ev_gsnil, ev_gscons, ev_gtp, ev_yes, ev_retR_rt, bind_ok, List.getElem?_cons_zero, List.getElem?_cons_succ, List.set_cons_zero, List.set_cons_succ, List.length_cons, List.length_nil, Nat.reduceAdd, Nat.reduceLeDiff, if_true, gc_same, gct_same, v_truB, Sm.v_add, Sm.v_sub, isL_lst, decide_true, decide_false, Bool.not_true, Bool.not_false, Bool.false_eq_true, if_false, e, ea, en]
    rfl
  · rw [decide_eq_false hk, Bool.not_false] at en
    have hf := W.few k
    have hp : 0 < (kd ps k).length := List.length_pos_iff.mpr hk
    obtain ⟨_, S', x, g', cs, rfl, hc⟩ := e_Lchances (b := b) (g := g) hS cb (n := (kd ps k).length) (by omega) (by omega)
    refine ⟨eR cs, S', ?_, g', cs, rfl, fun z => absurd z hk, fun _ => hc⟩
    have el : cLen [.lst id] (SH b S g) = .ok (.int (kd ps k).length) (SH b S g) := by rw [v_len (dI_lst gk), List.length_map]
    simp only [ev_c, ev_var, ev_nil, ev_cons, ev_tup, ev_lst, ev_op, ev_tst, ev_toB, ev_tru, ev_andT, ev_orT, ev_notT, ev_andV, ev_orV, ev_notV, ev_neg, ev_ifE, ev_no, ev_so, ev_sl, ev_cb, ev_isi, ev_mt, ev_lr1, ev_gc, ev_gct, ev_call, ev_nx, ev_seq, ev_exp, ev_ret, ev_if, ev_set, ev_asg, ev_par, ev_gnm, ev_gsb, ev_gsnil, ev_gscons, ev_gtp, ev_yes, ev_retR_rt, bind_ok, List.getElem?_cons_zero, List.getElem?_cons_succ, List.set_cons_zero, List.set_cons_succ, List.length_cons, List.length_nil, Nat.reduceAdd, Nat.reduceLeDiff, if_true, gc_same, gct_same, v_truB, Sm.v_add, Sm.v_sub, isL_lst, decide_true, decide_false, Bool.not_true, Bool.not_false, Bool.false_eq_true, if_false, e, ea, en, el, h0, x, gcS]
theorem e_Ltilted {S : List Int × Int} (hS : Gd S) (cb : CloS b g) (W : WF ps) (H : CH ps C) (K : KS b g kl ps) : Drw b g (fun d => d = .bl true) (m_Ltilted [.lst (b.length + 1), t, eT C, kl] (SH b S g)) := by
  have wl := W.len
  obtain ⟨n0, ids, hkl, hids, lids, hid⟩ := id K
  obtain ⟨vd, S', x1, g1, lv, hv⟩ := fLc_drw_seq (b := b) (g := g) (own := [6]) (fe := fVar 3) (tgt := gNm 6) (elt := fIfE (fGcT (fTst (fOp dNe (fVar 6) (fLst fNil)))) (fGc (fCall 2 m_Lchances (fCons (fVar 0) (fCons (fCB cLen (fCons (fVar 6) fNil)) fNil)))) (fTup fNil)) (σ := [some (.lst (b.length + 1)), some t, some (eT C), some kl, none, none, none, none, none]) (S := S) (d := kl) (ds := ids.map D.lst) hS (fun S => by rw [hkl]; exact sqn_l (hids S)) (by simp) (by simp; omega) (fun k v => ∃ cs, v = eR cs ∧ (kd ps k = [] → cs = []) ∧ (kd ps k ≠ [] → Chn (kd ps k).length cs)) (by
    intro k d S ed hS
    rw [List.getElem?_map, Option.map_eq_some_iff] at ed
    obtain ⟨i, ei, rfl⟩ := ed
    have lk : k < ps.length := by have := (List.getElem?_eq_some_iff.mp ei).1; omega
    obtain ⟨id', ei', gi⟩ := hid k lk
    rw [ei] at ei'; cases ei'
    exact ⟨_, rfl, draw_row (fe := fVar 6) hS cb W K lk rfl fun S => ⟨i, by simp [wipeD], gi S⟩⟩)
  obtain ⟨O, rfl, HO⟩ := rows_CH (by rw [lv, List.length_map, lids]) hv
  have Hc := cb S'
  have p1 : D.puL (O.map eR) = true := eT_pu O
  unfold m_Ltilted mOf b_Ltilted
  have hst : startD 9 [.lst (b.length + 1), t, eT C, kl] = [some (.lst (b.length + 1)), some t, some (eT C), some kl, none, none, none, none, none] := rfl
  rw [hst]
  have n1 : gcR (SH b S g).length (.ok (.lst (SH b S' g).length) (SH b S' g ++ [.lst (O.map eR)])) = .ok (.lst (SH b S' g).length) (SH b S' g ++ [.lst (O.map eR)]) := by
    rw [show (SH b S g).length = (SH b S' g).length by rw [SH_length, SH_length]]
    exact gc_np Hc p1
  have n2 : gcR (SH b S g).length (cTup [.lst (SH b S' g).length] (SH b S' g ++ [.lst (O.map eR)])) = .ok (eT O) (SH b S' g) := by
    rw [show (SH b S g).length = (SH b S' g).length by rw [SH_length, SH_length]]
    exact tup_gc Hc p1
  rw [seq_nx (σ1 := [some (.lst (b.length + 1)), some t, some (eT C), some kl, some (eT O), none, none, none, none]) (h1 := SH b S' g)]
  rotate_left
  · simp only [ev_c, ev_var, ev_nil, ev_cons, ev_tup, ev_lst, ev_op, ev_tst, ev_toB, ev_tru, ev_andT, ev_orT, ev_notT, ev_andV, ev_orV, ev_notV, ev_neg, ev_ifE, ev_no, ev_so, ev_sl, ev_cb, ev_isi, ev_mt, ev_lr1, ev_gc, ev_gct, ev_call, ev_nx, ev_seq, ev_exp, ev_ret, ev_if, ev_set, ev_asg, ev_par, ev_gnm, ev_gsb, ev_gsnil, ev_gscons, ev_gtp, ev_yes, ev_retR_rt, bind_ok, List.getElem?_cons_zero, List.getElem?_cons_succ, List.set_cons_zero, List.set_cons_succ, List.length_cons, List.length_nil, Nat.reduceAdd, Nat.reduceLeDiff, if_true, gc_same, gct_same, v_truB, Sm.v_add, Sm.v_sub, isL_lst, decide_true, decide_false, Bool.not_true, Bool.not_false, Bool.false_eq_true, if_false, x1, n1, n2]
  have elC : cLen [eT C] (SH b S' g) = .ok (.int C.length) (SH b S' g) := v_lenM (d := eT C) (e := eR) (xs := C) sqn_t
  have x2 := fLc_rg (own := [7]) (fa := fCB cLen (fCons (fVar 2) fNil)) (tgt := gNm 7) (elt := fGc (fCB cTup (fCons (fGc (fLc [8] (iRg1 (fCB cLen (fCons (fOp dIx (fVar 2) (fVar 7)) fNil))) (gNm 8) fYes (fGc (fCall 2 m_Lover (fCons (fOp dIx (fOp dIx (fVar 4) (fVar 7)) (fVar 8)) (fCons (fOp dIx (fOp dIx (fVar 2) (fVar 7)) (fVar 8)) fNil)))))) fNil))) (σ := [some (.lst (b.length + 1)), some t, some (eT C), some kl, some (eT O), none, none, none, none]) (h := SH b S' g) (n := C.length) (by simp only [ev_c, ev_var, ev_nil, ev_cons, ev_tup, ev_lst, ev_op, ev_tst, ev_toB, ev_tru, ev_andT, ev_orT, ev_notT, ev_andV, ev_orV, ev_notV, ev_neg, ev_ifE, ev_no, ev_so, ev_sl, ev_cb, ev_isi, ev_mt, ev_lr1, ev_gc, ev_gct, ev_call, ev_nx, ev_seq, ev_exp, ev_ret, ev_if, ev_set, ev_asg, ev_par, ev_gnm, ev_gsb, ev_gsnil, ev_gscons, ev_gtp, ev_yes, ev_retR_rt, bind_ok, List.getElem?_cons_zero, List.getElem?_cons_succ, List.set_cons_zero, List.set_cons_succ, List.length_cons, List.length_nil, Nat.reduceAdd, Nat.reduceLeDiff, if_true, gc_same, gct_same, v_truB, Sm.v_add, Sm.v_sub, isL_lst, decide_true, decide_false, Bool.not_true, Bool.not_false, Bool.false_eq_true, if_false, elC]) (by rw [H.len]; omega) (fun k => eR ((List.range (cAt C k).length).map fun j => Vf (cAt O k) j / Vf (cAt C k) j)) (by
    intro k hk
    refine ⟨_, rfl, ?_⟩
    have i1 : dIx (eT C) (.int k) (SH b S' g) = .ok (eR (cAt C k)) (SH b S' g) := v_ixT hk
    have i2 : dIx (eT O) (.int k) (SH b S' g) = .ok (eR (cAt O k)) (SH b S' g) := v_ixT (by rw [HO.len, ← H.len]; exact hk)
    have ll : cLen [eR (cAt C k)] (SH b S' g) = .ok (.int (cAt C k).length) (SH b S' g) := v_lenM (d := eR (cAt C k)) (e := eQ) (xs := cAt C k) sqn_t
    have y := fLc_rg (own := [8]) (fa := fCB cLen (fCons (fOp dIx (fVar 2) (fVar 7)) fNil)) (tgt := gNm 8) (elt := fGc (fCall 2 m_Lover (fCons (fOp dIx (fOp dIx (fVar 4) (fVar 7)) (fVar 8)) (fCons (fOp dIx (fOp dIx (fVar 2) (fVar 7)) (fVar 8)) fNil)))) (σ := [some (.lst (b.length + 1)), some t, some (eT C), some kl, some (eT O), none, none, some (.int k), none]) (h := SH b S' g) (n := (cAt C k).length) (by simp only [ev_c, ev_var, ev_nil, ev_cons, ev_tup, ev_lst, ev_op, ev_tst, ev_toB, ev_tru, ev_andT, ev_orT, ev_notT, ev_andV, ev_orV, ev_notV, ev_neg, ev_ifE, ev_no, ev_so, ev_sl, ev_cb, ev_isi, ev_mt, ev_lr1, ev_gc, ev_gct, ev_call, ev_nx, ev_seq, ev_exp, ev_ret, ev_if, ev_set, ev_asg, ev_par, ev_gnm, ev_gsb, ev_gsnil, ev_gscons, ev_gtp, ev_yes, ev_retR_rt, bind_ok, List.getElem?_cons_zero, List.getElem?_cons_succ, List.set_cons_zero, List.set_cons_succ, List.length_cons, List.length_nil, Nat.reduceAdd, Nat.reduceLeDiff, if_true, gc_same, gct_same, v_truB, Sm.v_add, Sm.v_sub, isL_lst, decide_true, decide_false, Bool.not_true, Bool.not_false, Bool.false_eq_true, if_false, i1, ll]) (by have := (H.szs W k).2; omega) (fun j => eQ (Vf (cAt O k) j / Vf (cAt C k) j)) (by
      intro j hj
      refine ⟨_, rfl, ?_⟩
      have hk' : k < ps.length := by rw [← H.len]; exact hk
      simp only [wipeD, ev_c, ev_var, ev_nil, ev_cons, ev_tup, ev_lst, ev_op, ev_tst, ev_toB, ev_tru, ev_andT, ev_orT, ev_notT, ev_andV, ev_orV, ev_notV, ev_neg, ev_ifE, ev_no, ev_so, ev_sl, ev_cb, ev_isi, ev_mt, ev_lr1, ev_gc, ev_gct, ev_call, ev_nx, ev_seq, ev_exp, ev_ret, ev_if, ev_set, ev_asg, ev_par, ev_gnm, ev_gsb, ev_gsnil, ev_gscons, ev_gtp, ev_yes, ev_retR_rt, bind_ok, List.getElem?_cons_zero, List.getElem?_cons_succ, List.set_cons_zero, List.set_cons_succ, List.length_cons, List.length_nil, Nat.reduceAdd, Nat.reduceLeDiff, if_true, gc_same, gct_same, v_truB, Sm.v_add, Sm.v_sub, isL_lst, decide_true, decide_false, Bool.not_true, Bool.not_false, Bool.false_eq_true, if_false, i1, i2, v_ixR (show j < (cAt O k).length by rw [HO.row hk', ← H.row hk']; exact hj), v_ixR hj, e_Lover (ok_Vf (HO.szs W k).1 (by decide) j) (ok_Vf (H.szs W k).1 (by decide) j) (Vf_pos (H.pos k) hj)])
    have em : (List.range (cAt C k).length).map (fun j => eQ (Vf (cAt O k) j / Vf (cAt C k) j)) = ((List.range (cAt C k).length).map fun j => Vf (cAt O k) j / Vf (cAt C k) j).map eQ := by simp
    rw [em] at y
    have et : gcR (SH b S' g).length (cTup [.lst (SH b S' g).length] (SH b S' g ++ [.lst (((List.range (cAt C k).length).map fun j => Vf (cAt O k) j / Vf (cAt C k) j).map eQ)])) = .ok (eR ((List.range (cAt C k).length).map fun j => Vf (cAt O k) j / Vf (cAt C k) j)) (SH b S' g) := tup_gc Hc (eQs_pu _)
    simp only [wipeD, ev_c, ev_var, ev_nil, ev_cons, ev_tup, ev_lst, ev_op, ev_tst, ev_toB, ev_tru, ev_andT, ev_orT, ev_notT, ev_andV, ev_orV, ev_notV, ev_neg, ev_ifE, ev_no, ev_so, ev_sl, ev_cb, ev_isi, ev_mt, ev_lr1, ev_gc, ev_gct, ev_call, ev_nx, ev_seq, ev_exp, ev_ret, ev_if, ev_set, ev_asg, ev_par, ev_gnm, ev_gsb, ev_gsnil, ev_gscons, ev_gtp, ev_yes, ev_retR_rt, bind_ok, List.getElem?_cons_zero, List.getElem?_cons_succ, List.set_cons_zero, List.set_cons_succ, List.length_cons, List.length_nil, Nat.reduceAdd, Nat.reduceLeDiff, if_true, gc_same, gct_same, v_truB, Sm.v_add, Sm.v_sub, isL_lst, decide_true, decide_false, Bool.not_true, Bool.not_false, Bool.false_eq_true, if_false, y, gc_np Hc (eQs_pu _), et])
  have em : (List.range C.length).map (fun k => eR ((List.range (cAt C k).length).map fun j => Vf (cAt O k) j / Vf (cAt C k) j)) = (qts C O).map eR := by simp [qts]
  rw [em] at x2
  have p2 : D.puL ((qts C O).map eR) = true := eT_pu (qts C O)
  have et : gcR (SH b S' g).length (cTup [.lst (SH b S' g).length] (SH b S' g ++ [.lst ((qts C O).map eR)])) = .ok (eT (qts C O)) (SH b S' g) := tup_gc Hc p2
  rw [seq_nx (σ1 := [some (.lst (b.length + 1)), some t, some (eT C), some kl, some (eT O), some (eT (qts C O)), none, none, none]) (h1 := SH b S' g)]
  rotate_left
  · simp only [ev_c, ev_var, ev_nil, ev_cons, ev_tup, ev_lst, ev_op, ev_tst, ev_toB, ev_tru, ev_andT, ev_orT, ev_notT, ev_andV, ev_orV, ev_notV, ev_neg, ev_ifE, ev_no, ev_so, ev_sl, ev_cb, ev_isi, ev_mt, ev_lr1, ev_gc, ev_gct, ev_call, ev_nx, ev_seq, ev_exp, ev_ret, ev_if, ev_set, ev_asg, ev_par, ev_gnm, ev_gsb, ev_gsnil, ev_gscons, ev_gtp, ev_yes, ev_retR_rt, bind_ok, List.getElem?_cons_zero, List.getElem?_cons_succ, List.set_cons_zero, List.set_cons_succ, List.length_cons, List.length_nil, Nat.reduceAdd, Nat.reduceLeDiff, if_true, gc_same, gct_same, v_truB, Sm.v_add, Sm.v_sub, isL_lst, decide_true, decide_false, Bool.not_true, Bool.not_false, Bool.false_eq_true, if_false, x2, gc_np Hc p2, et]
  have x3 := e_tilted (t := t) Hc (C := C) (O := O) (H.szs W) (fun k => (HO.szs W k).1) (fun k hk => by rw [H.len] at hk; rw [HO.row hk, H.row hk]) (by rw [HO.len, H.len]) (by rw [H.len]; omega) H.pos
  refine ⟨.bl true, S', ?_, g1, rfl⟩
  simp only [ev_c, ev_var, ev_nil, ev_cons, ev_tup, ev_lst, ev_op, ev_tst, ev_toB, ev_tru, ev_andT, ev_orT, ev_notT, ev_andV, ev_orV, ev_notV, ev_neg, ev_ifE, ev_no, ev_so, ev_sl, ev_cb, ev_isi, ev_mt, ev_lr1, ev_gc, ev_gct, ev_call, ev_nx, ev_seq, ev_exp, ev_ret, ev_if, ev_set, ev_asg, ev_par, ev_gnm, ev_gsb, ev_gsnil, ev_gscons, ev_gtp, ev_yes, ev_retR_rt, bind_ok, List.getElem?_cons_zero, List.getElem?_cons_succ, List.set_cons_zero, List.set_cons_succ, List.length_cons, List.length_nil, Nat.reduceAdd, Nat.reduceLeDiff, if_true, gc_same, gct_same, v_truB, Sm.v_add, Sm.v_sub, isL_lst, decide_true, decide_false, Bool.not_true, Bool.not_false, Bool.false_eq_true, if_false, x3, eq_eT, gcS]
end
end Lw

/-! k47_EI: pieces of the law's trees. -/
namespace Lw
open PySem PySem.Spec PyProof.Rows L2 Sm Sq
def kls (ps : List (Option Nat)) (j : Nat) : MH := (List.range j).map fun k => HE.lst ((kd ps k).map eI)
theorem kls_len {ps : List (Option Nat)} {j : Nat} : (kls ps j).length = j := by simp [kls]
theorem kls_pur {ps : List (Option Nat)} {j : Nat} : Pur (kls ps j) := fun e m => by
  obtain ⟨k, _, rfl⟩ := List.mem_map.mp m
  exact ⟨_, rfl, eIs_pu _⟩
theorem kls_succ {ps : List (Option Nat)} {j : Nat} : kls ps (j + 1) = kls ps j ++ [.lst ((kd ps j).map eI)] := by simp [kls, List.range_succ]
section
variable {b g : MH} {ps : List (Option Nat)} {t : D}
theorem kids_lc {H : MH} (c : Clo H) (T : TreeD t ps) (l : ps.length ≤ 40) {σ0 : Sg} (h1 : σ0[1]? = some (some t)) (l7 : 7 < σ0.length) (chk : MH → Bool) (hc : ∀ h, chk h = true) :
    ∀ (m j : Nat) (acc : List D), lcGo chk (gNm 7) fYes (fGc (fCall 2 m_Lkids (fCons (fVar 1) (fCons (fVar 7) fNil)))) σ0 ((List.range' j m).map fun i : Nat => D.int (i : Int)) acc (H ++ kls ps j) = .ok (acc ++ (List.range' j m).map fun k => D.lst (H.length + k)) (H ++ kls ps (j + m))
  | 0, j, acc => by simp [lcGo, hc]
  | m + 1, j, acc => by
    have c1 : Clo (H ++ kls ps j) := clo_pur c kls_pur
    have e1 := e_Lkids T (by omega) j c1
    have g1 : (σ0.set 7 (some (.int j)))[1]? = some (some t) := by rw [List.getElem?_set_ne (by decide)]; exact h1
    have g7 : (σ0.set 7 (some (.int j)))[7]? = some (some (.int j)) := by rw [List.getElem?_set_self l7]
    have e2 : fGc (fCall 2 m_Lkids (fCons (fVar 1) (fCons (fVar 7) fNil))) (σ0.set 7 (some (.int j))) (H ++ kls ps j) = .ok (.lst (H.length + j)) (H ++ kls ps (j + 1)) := by
      simp only [ev_c, ev_var, ev_nil, ev_cons, ev_tup, ev_lst, ev_op, ev_tst, ev_toB, ev_tru, ev_andT, ev_orT, ev_notT, ev_andV, ev_orV, ev_notV, ev_neg, ev_ifE, ev_no, ev_so, ev_sl, ev_cb, ev_isi, ev_mt, ev_lr1, ev_gc, ev_gct, ev_call, ev_nx, ev_seq, ev_exp, ev_ret, ev_if, ev_set, ev_asg, ev_par, ev_gnm, ev_gsb, ev_gsnil, ev_gscons, ev_gtp, ev_yes, ev_retR_rt, bind_ok, List.getElem?_cons_zero, List.getElem?_cons_succ, List.set_cons_zero, List.set_cons_succ, List.length_cons, List.length_nil, Nat.reduceAdd, Nat.reduceLeDiff, if_true, gc_same, gct_same, v_truB, Sm.v_add, Sm.v_sub, isL_lst, decide_true, decide_false, Bool.not_true, Bool.not_false, Bool.false_eq_true, if_false, g1, g7, e1, gc_np c1 (eIs_pu _)]
      rw [kls_succ, List.length_append, kls_len, List.append_assoc]
    rw [List.range'_succ, List.map_cons, lcGo, if_pos (hc _), ev_gnm, noX_ok, bind_ok, ev_yes, noX_ok, bind_ok, if_pos rfl, e2, noX_ok, bind_ok, kids_lc c T l h1 l7 chk hc m (j + 1) _]
    rw [show j + 1 + m = j + (m + 1) by omega]
    simp
/-- the kids of all nodes, as the law holds them -/
theorem kids_step (cb : CloS b g) (W : WF ps) (T : TreeD t ps) : ∃ j kl, (∀ (S : List Int × Int) (σ : Sg), σ[1]? = some (some t) → σ[2]? = some (some (.int ps.length)) → 7 < σ.length → fGc (fLc [7] (iRg1 (fVar 2)) (gNm 7) fYes (fGc (fCall 2 m_Lkids (fCons (fVar 1) (fCons (fVar 7) fNil))))) σ (SH b S g) = .ok kl (SH b S (g ++ j))) ∧ KS b (g ++ j) kl ps ∧ CloS b (g ++ j) := by
  have wl := W.len
  have w2 := W.two
  refine ⟨kls ps ps.length ++ [.lst ((List.range ps.length).map fun k => D.lst (b.length + (g.length + 2) + k))], .lst (b.length + (g.length + 2) + ps.length), fun S σ h1 h2 h7 => ?_, ?_, ?_⟩
  · have e1 : iRg1 (fVar 2) σ (SH b S g) = .ok (.vals ((List.range ps.length).map fun i : Nat => D.int (i : Int))) (SH b S g) := iRg1_eq (by simp only [ev_c, ev_var, ev_nil, ev_cons, ev_tup, ev_lst, ev_op, ev_tst, ev_toB, ev_tru, ev_andT, ev_orT, ev_notT, ev_andV, ev_orV, ev_notV, ev_neg, ev_ifE, ev_no, ev_so, ev_sl, ev_cb, ev_isi, ev_mt, ev_lr1, ev_gc, ev_gct, ev_call, ev_nx, ev_seq, ev_exp, ev_ret, ev_if, ev_set, ev_asg, ev_par, ev_gnm, ev_gsb, ev_gsnil, ev_gscons, ev_gtp, ev_yes, ev_retR_rt, bind_ok, List.getElem?_cons_zero, List.getElem?_cons_succ, List.set_cons_zero, List.set_cons_succ, List.length_cons, List.length_nil, Nat.reduceAdd, Nat.reduceLeDiff, if_true, gc_same, gct_same, v_truB, Sm.v_add, Sm.v_sub, isL_lst, decide_true, decide_false, Bool.not_true, Bool.not_false, Bool.false_eq_true, if_false, h2]) (by omega)
    have e2 := kids_lc (H := SH b S g) (cb S) T wl (σ0 := wipeD σ [7]) (by simp only [wipeD]; rw [List.getElem?_set_ne (by decide)]; exact h1) (by simp only [wipeD]; rw [List.length_set]; exact h7) (fun h => (It'.vals ((List.range ps.length).map fun i : Nat => D.int (i : Int))).chk ((List.range ps.length).map fun i : Nat => D.int (i : Int)) h) (fun _ => rfl) ps.length 0 []
    rw [← List.range_eq_range', Nat.zero_add, show kls ps 0 = [] from rfl, List.append_nil, List.nil_append, SH_length] at e2
    rw [ev_gc, fLc_eq e1 rfl (by simp; omega), e2, bind_ok]
    unfold lcEnd
    have hl : (SH b S g ++ kls ps ps.length).length = b.length + (g.length + 2) + ps.length := by rw [List.length_append, SH_length, kls_len]
    have n1 : ¬ (SH b S g ++ kls ps ps.length ++ [HE.lst ((List.range ps.length).map fun k => D.lst (b.length + (g.length + 2) + k))]).length = (SH b S g).length := by simp [kls_len]
    have n2 : (SH b S g ++ kls ps ps.length ++ [HE.lst ((List.range ps.length).map fun k => D.lst (b.length + (g.length + 2) + k))]).take (SH b S g).length = SH b S g := by rw [List.append_assoc, List.take_left' rfl]
    have c' : clH (SH b S g).length (SH b S g) = true := cb S
    have n3 : (D.lst (SH b S g ++ kls ps ps.length).length).cl (SH b S g).length = false := by simp [D.cl, kls_len]
    have n4 : (SH b S g ++ kls ps ps.length ++ [HE.lst ((List.range ps.length).map fun k => D.lst (b.length + (g.length + 2) + k))])[(SH b S g ++ kls ps ps.length).length]? = some (.lst ((List.range ps.length).map fun k => D.lst (b.length + (g.length + 2) + k))) := get_0
    have n5 : D.clL (SH b S g).length ((List.range ps.length).map fun k => D.lst (b.length + (g.length + 2) + k)) = false := by
      rw [Bool.eq_false_iff]
      intro z
      have := (clL_iff _ _).mp z (D.lst (b.length + (g.length + 2) + 0)) (List.mem_map.mpr ⟨0, List.mem_range.mpr (by omega), rfl⟩)
      have := of_decide_eq_true this
      rw [SH_length] at this
      omega
    unfold gcR
    simp only [if_neg n1, n2, c', if_true, n3, Bool.false_eq_true, if_false, n4, n5, and_false]
    rw [hl, SH_app, SH_app, List.append_assoc]
  · refine ⟨_, (List.range ps.length).map fun k => b.length + (g.length + 2) + k, rfl, fun S => ?_, by simp, fun k hk => ⟨b.length + (g.length + 2) + k, by simp [hk], fun S => ?_⟩⟩
    · rw [show b.length + (g.length + 2) + ps.length = b.length + 2 + (g.length + ps.length) by omega, SH_g, ← List.append_assoc, List.getElem?_append_right (by simp [kls_len])]
      simp [kls_len]
    · rw [show b.length + (g.length + 2) + k = b.length + 2 + (g.length + k) by omega, SH_g, List.getElem?_append_right (by omega), show g.length + k - g.length = k by omega, List.getElem?_append_left (by rw [kls_len]; exact hk)]
      simp [kls, hk]
  · rw [← List.append_assoc]
    refine (clos_pur cb kls_pur).push ((clL_iff _ _).mpr fun d m => ?_)
    obtain ⟨k, mk, rfl⟩ := List.mem_map.mp m
    rw [List.mem_range] at mk
    exact decide_eq_true (by rw [List.length_append, kls_len]; omega)
theorem cut_lastT {C : List (List Rat)} (h : C ≠ []) (H : MH) : dSl (eT C) none (some (-1)) H = .ok (eT C.dropLast) H := by
  have hl : 0 < C.length := List.length_pos_iff.mpr h
  have e : Sm.cutD (C.map eR) none (some (-1)) = (C.dropLast).map eR := by
    unfold Sm.cutD
    have h0 : HT.sIx (C.map eR).length 0 none = 0 := rfl
    have h1 : HT.sIx (C.map eR).length (C.map eR).length (some (-1)) = C.length - 1 := by
      rw [List.length_map]
      show (if (-1 : Int) < 0 then ((-1 : Int) + (C.length : Int)).toNat else min (-1 : Int).toNat C.length) = _
      rw [if_pos (by decide)]
      omega
    rw [h0, h1, List.drop_zero, Nat.sub_zero, List.dropLast_eq_take, List.map_take]
  show (Res.ok (D.tup (Sm.cutD (C.map eR) none (some (-1)))) H) = _
  rw [e]; rfl
theorem cut_tailT {C : List (List Rat)} (H : MH) : dSl (eT C) (some 1) none H = .ok (eT C.tail) H := by
  have e : Sm.cutD (C.map eR) (some 1) none = (C.tail).map eR := by
    unfold Sm.cutD
    have h0 : HT.sIx (C.map eR).length (C.map eR).length none = C.length := by rw [List.length_map]; rfl
    have h1 : HT.sIx (C.map eR).length 0 (some 1) = min 1 C.length := by
      rw [show (some (1 : Int)) = some ((1 : Nat) : Int) from rfl, HT.sIx_nat, List.length_map]
    rw [h0, h1]
    cases C with
    | nil => rfl
    | cons q qs =>
      rw [List.length_cons, show min 1 (qs.length + 1) = 1 by omega, List.map_cons, List.drop_succ_cons, List.drop_zero, List.tail_cons, List.take_of_length_le (by simp)]
  show (Res.ok (D.tup (Sm.cutD (C.map eR) (some 1) none)) H) = _
  rw [e]; rfl
theorem add_eT {ps qs : List (List Rat)} {H : MH} (l : ps.length + qs.length ≤ 1000000) : dAdd (eT ps) (eT qs) H = .ok (eT (ps ++ qs)) H := by
  show (if (ps.map eR).length + (qs.map eR).length ≤ 1000000 then Res.ok (D.tup (ps.map eR ++ qs.map eR)) H else .err) = _
  rw [if_pos (by simpa using l), ← List.map_append]; rfl
theorem v_listT {h : MH} {qs : List (List Rat)} (l : qs.length ≤ 1000000) : cList [eT qs] h = .ok (.lst h.length) (h ++ [.lst (qs.map eR)]) := by
  show allocD (qs.map eR) h = _
  exact v_alloc (by simpa using l)
theorem cut_one {h : MH} {n k : Nat} {ks : List Nat} (e : h[n]? = some (.lst ((k :: ks).map eI))) : dSl (.lst n) none (some 1) h = .ok (.lst h.length) (h ++ [.lst ([k].map eI)]) := by
  have e1 : Sm.cutD ((k :: ks).map eI) none (some 1) = [k].map eI := by
    unfold Sm.cutD
    have h0 : HT.sIx ((k :: ks).map eI).length 0 none = 0 := rfl
    have h1 : HT.sIx ((k :: ks).map eI).length ((k :: ks).map eI).length (some 1) = 1 := by
      rw [show (some (1 : Int)) = some ((1 : Nat) : Int) from rfl, HT.sIx_nat, List.length_map, List.length_cons]
      omega
    rw [h0, h1]; rfl
  simp only [dSl, dT_lst, dL_lst e, e1]
  exact v_alloc (by simp)
def wj (n : Nat) (w : Nat → Rat) (j : Nat) : List Rat := (List.range n).map fun k => if k ≤ j then w k else 1
theorem wj_len {n j : Nat} {w : Nat → Rat} : (wj n w j).length = n := by simp [wj]
theorem wj_0 {n : Nat} {w : Nat → Rat} (h : w 0 = 1) : wj n w 0 = List.replicate n 1 := by
  unfold wj
  rw [List.eq_replicate_iff]
  refine ⟨by simp, fun q m => ?_⟩
  obtain ⟨k, _, rfl⟩ := List.mem_map.mp m
  split
  · rw [show k = 0 by omega, h]
  · rfl
theorem wj_get {n j k : Nat} {w : Nat → Rat} (h : k ≤ j) (l : k < n) : (wj n w j)[k]? = some (w k) := by
  simp only [wj, List.getElem?_map, List.getElem?_range l, Option.map_some]
  rw [if_pos h]
theorem wj_set {n j : Nat} {w : Nat → Rat} (l : j + 1 < n) : (wj n w j).set (j + 1) (w (j + 1)) = wj n w (j + 1) := by
  apply List.ext_getElem?
  intro k
  by_cases hk : k < n
  · by_cases e : k = j + 1
    · subst e
      rw [List.getElem?_set_self (by rw [wj_len]; exact hk), wj_get (Nat.le_refl _) hk]
    · rw [List.getElem?_set_ne (fun z => e z.symm)]
      simp only [wj, List.getElem?_map, List.getElem?_range hk, Option.map_some]
      congr 1
      by_cases h : k ≤ j
      · rw [if_pos h, if_pos (by omega)]
      · rw [if_neg h, if_neg (by omega)]
  · rw [List.getElem?_eq_none (by rw [List.length_set, wj_len]; omega), List.getElem?_eq_none (by rw [wj_len]; omega)]
theorem wj_all {n j : Nat} {w : Nat → Rat} (h : n ≤ j + 1) : wj n w j = (List.range n).map w := by
  unfold wj
  apply List.map_congr_left
  intro k m
  rw [List.mem_range] at m
  rw [if_pos (by omega)]
variable {C : List (List Rat)} {dp : Nat → Nat} {w : Nat → Rat} {kl : D}
/-- the law's weights -/
theorem weights_loop {H : MH} {v0 v3 : D} (c : Clo H) (W : WF ps) (T : TreeD t ps) (HC : CH ps C) (K : KL H kl ps) (wt : WT ps C w) (zw : ∀ k, k < ps.length → Sz 16 (w k)) :
    ∃ z7 z8, fFor (iRg2 (fC (.int 1)) (fVar 2)) (gNm 7) (fSeq (fSet 8 (fOp dIx (fOp dIx (fOp dIx (fVar 1) (fC (.int 2))) (fVar 7)) (fC (.int 0)))) (fAsg (fGc (fCall 2 m_Lmul (fCons (fOp dIx (fVar 6) (fVar 8)) (fCons (fOp dIx (fOp dIx (fVar 5) (fVar 8)) (fMt mIndex (fOp dIx (fVar 4) (fVar 8)) (fCons (fVar 7) fNil))) fNil)))) (gSb (fVar 6) (fVar 7))))
      [some v0, some t, some (.int ps.length), some v3, some kl, some (eT C), some (.lst H.length), none, none, none, none, none, none, none, none] (H ++ [.lst ((List.replicate ps.length (1 : Rat)).map eQ)])
      = .ok (.nx [some v0, some t, some (.int ps.length), some v3, some kl, some (eT C), some (.lst H.length), z7, z8, none, none, none, none, none, none]) (H ++ [.lst (((List.range ps.length).map w).map eQ)]) := by
  have wl := W.len
  have w2 := W.two
  have er : rgD 1 (ps.length : Int) = (List.range (ps.length - 1)).map fun i : Nat => D.int ((i + 1 : Nat) : Int) := by
    unfold rgD
    rw [show ((ps.length : Int) - 1).toNat = ps.length - 1 by omega]
    apply List.map_congr_left
    intro i _
    congr 1
    omega
  have ei : iRg2 (fC (.int 1)) (fVar 2) [some v0, some t, some (.int ps.length), some v3, some kl, some (eT C), some (.lst H.length), none, none, none, none, none, none, none, none] (H ++ [.lst ((List.replicate ps.length (1 : Rat)).map eQ)]) = .ok (.vals ((List.range (ps.length - 1)).map fun i : Nat => D.int ((i + 1 : Nat) : Int))) (H ++ [.lst ((List.replicate ps.length (1 : Rat)).map eQ)]) := by
    simp only [iRg2, ev_c, ev_var, ev_nil, ev_cons, ev_tup, ev_lst, ev_op, ev_tst, ev_toB, ev_tru, ev_andT, ev_orT, ev_notT, ev_andV, ev_orV, ev_notV, ev_neg, ev_ifE, ev_no, ev_so, ev_sl, ev_cb, ev_isi, ev_mt, ev_lr1, ev_gc, ev_gct, ev_call, ev_nx, ev_seq, ev_exp, ev_ret, ev_if, ev_set, ev_asg, ev_par, ev_gnm, ev_gsb, ev_gsnil, ev_gscons, ev_gtp, ev_yes, ev_retR_rt, bind_ok, List.getElem?_cons_zero, List.getElem?_cons_succ, List.set_cons_zero, List.set_cons_succ, List.length_cons, List.length_nil, Nat.reduceAdd, Nat.reduceLeDiff, if_true, gc_same, gct_same, v_truB, Sm.v_add, Sm.v_sub, isL_lst, decide_true, decide_false, Bool.not_true, Bool.not_false, Bool.false_eq_true, if_false, iRg]
    rw [if_pos (by omega), er]
  rw [fFor_eq ei rfl]
  obtain ⟨σ', h', e, z7, z8, rfl, eh⟩ := forGo_inv (chk := fun h => (It'.vals ((List.range (ps.length - 1)).map fun i : Nat => D.int ((i + 1 : Nat) : Int))).chk ((List.range (ps.length - 1)).map fun i : Nat => D.int ((i + 1 : Nat) : Int)) h) (tgt := gNm 7) (body := (fSeq (fSet 8 (fOp dIx (fOp dIx (fOp dIx (fVar 1) (fC (.int 2))) (fVar 7)) (fC (.int 0)))) (fAsg (fGc (fCall 2 m_Lmul (fCons (fOp dIx (fVar 6) (fVar 8)) (fCons (fOp dIx (fOp dIx (fVar 5) (fVar 8)) (fMt mIndex (fOp dIx (fVar 4) (fVar 8)) (fCons (fVar 7) fNil))) fNil)))) (gSb (fVar 6) (fVar 7)))))
    (fun j σ h => ∃ z7 z8, σ = [some v0, some t, some (.int ps.length), some v3, some kl, some (eT C), some (.lst H.length), z7, z8, none, none, none, none, none, none] ∧ h = H ++ [.lst ((wj ps.length w j).map eQ)]) ((List.range (ps.length - 1)).map fun i : Nat => D.int ((i + 1 : Nat) : Int)) 0 [some v0, some t, some (.int ps.length), some v3, some kl, some (eT C), some (.lst H.length), none, none, none, none, none, none, none, none] (H ++ [.lst ((List.replicate ps.length (1 : Rat)).map eQ)]) ⟨none, none, rfl, by rw [wj_0 wt.root]⟩ (fun _ _ _ _ => rfl) (by
      rintro j d σ h ej ⟨z7, z8, rfl, eh⟩
      rw [Nat.zero_add] at eh ⊢
      rw [eh]
      rw [List.getElem?_map, Option.map_eq_some_iff] at ej
      obtain ⟨i, ej, rfl⟩ := ej
      obtain ⟨hj, rfl⟩ := List.getElem?_eq_some_iff.mp ej
      rw [List.getElem_range]
      have hj' : j + 1 < ps.length := by simp at hj; omega
      obtain ⟨p, ep, lp⟩ := W.par (j + 1) (by omega) hj'
      obtain ⟨nodes, t1, t2, t3⟩ := T.nodes (H ++ [.lst ((wj ps.length w j).map eQ)])
      obtain ⟨r, e3⟩ := t3 (j + 1) _ ep
      obtain ⟨id, i0, gk⟩ := (K.app (g := [.lst ((wj ps.length w j).map eQ)])).ix (show p < ps.length by omega)
      have hi : (kd ps p).idxOf (j + 1) < (kd ps p).length := List.idxOf_lt_length_of_mem (mem_kd.mpr ep)
      have e5 := v_index gk (mem_kd.mpr ep)
      have i1 : dIx (.lst H.length) (.int p) (H ++ [.lst ((wj ps.length w j).map eQ)]) = .ok (eQ (w p)) (H ++ [.lst ((wj ps.length w j).map eQ)]) := v_ixM (e := eQ) (xs := wj ps.length w j) sqn_new (wj_get (by omega) (by omega))
      have i2 : dIx (eT C) (.int p) (H ++ [.lst ((wj ps.length w j).map eQ)]) = .ok (eR (cAt C p)) (H ++ [.lst ((wj ps.length w j).map eQ)]) := v_ixT (by rw [HC.len]; omega)
      have i3 : dIx (eR (cAt C p)) (.int ((kd ps p).idxOf (j + 1) : Nat)) (H ++ [.lst ((wj ps.length w j).map eQ)]) = .ok (eQ (cc ps C p (j + 1))) (H ++ [.lst ((wj ps.length w j).map eQ)]) := v_ixR (by rw [HC.row (by omega)]; exact hi)
      have o1 : Ok (w p) := (zw p (by omega)).mono (by decide)
      have o2 : Ok (cc ps C p (j + 1)) := ok_Vf (HC.sz (by omega)) (by decide) _
      have e6 : m_Lmul [eQ (w p), eQ (cc ps C p (j + 1))] (H ++ [.lst ((wj ps.length w j).map eQ)]) = .ok (eQ (w (j + 1))) (H ++ [.lst ((wj ps.length w j).map eQ)]) := by rw [e_Lmul o1 o2, wt.step (j + 1) p ep]
      have e7 : setD (.lst H.length) (.int ((j + 1 : Nat) : Int)) (eQ (w (j + 1))) (H ++ [.lst ((wj ps.length w j).map eQ)]) = .ok () (H ++ [.lst ((wj ps.length w (j + 1)).map eQ)]) := by
        rw [setD_eQ (by rw [wj_len]; exact hj'), wj_set hj']
      have e5' : mIndex (.lst id) [.int ((j + 1 : Nat) : Int)] (H ++ [.lst ((wj ps.length w j).map eQ)]) = .ok (.int ((kd ps p).idxOf (j + 1) : Nat)) (H ++ [.lst ((wj ps.length w j).map eQ)]) := e5
      refine ⟨_, _, _, _, _, rfl, ?_, .inl rfl, some (.int ((j + 1 : Nat) : Int)), some (.int p), rfl, rfl⟩
      simp only [ev_c, ev_var, ev_nil, ev_cons, ev_tup, ev_lst, ev_op, ev_tst, ev_toB, ev_tru, ev_andT, ev_orT, ev_notT, ev_andV, ev_orV, ev_notV, ev_neg, ev_ifE, ev_no, ev_so, ev_sl, ev_cb, ev_isi, ev_mt, ev_lr1, ev_gc, ev_gct, ev_call, ev_nx, ev_seq, ev_exp, ev_ret, ev_if, ev_set, ev_asg, ev_par, ev_gnm, ev_gsb, ev_gsnil, ev_gscons, ev_gtp, ev_yes, ev_retR_rt, bind_ok, List.getElem?_cons_zero, List.getElem?_cons_succ, List.set_cons_zero, List.set_cons_succ, List.length_cons, List.length_nil, Nat.reduceAdd, Nat.reduceLeDiff, if_true, gc_same, gct_same, v_truB, Sm.v_add, Sm.v_sub, isL_lst, decide_true, decide_false, Bool.not_true, Bool.not_false, Bool.false_eq_true, if_false, t1, e3, v_ix0, eP, i1, i2, i0, e5', i3, e6, e7])
  refine ⟨z7, z8, ?_⟩
  rw [e, eh, wj_all (by simp; omega)]
end
end Lw

/-! k47_EJ: the law's trees hold. -/
namespace Lw
open PySem PySem.Spec PyProof.Rows L2 Sm Sq
theorem cAt_mem {C : List (List Rat)} (h : ∀ qs ∈ C, SzL 8 qs ∧ qs.length ≤ 10) (k : Nat) : SzL 8 (cAt C k) ∧ (cAt C k).length ≤ 10 := by
  unfold cAt
  by_cases l : k < C.length
  · rw [List.getElem?_eq_getElem l]; exact h _ (List.getElem_mem _)
  · rw [List.getElem?_eq_none (by omega)]; exact ⟨(fun q m => by cases m), by simp⟩
section
variable {b g : MH} {ps : List (Option Nat)} {C : List (List Rat)} {t : D} {h : MH}
theorem CH.rows (W : WF ps) (H : CH ps C) : ∀ qs ∈ C, SzL 8 qs ∧ qs.length ≤ 10 := fun qs m => by
  obtain ⟨k, hk, rfl⟩ := List.mem_iff_getElem.mp m
  have := H.szs W k
  have e : cAt C k = C[k] := by unfold cAt; rw [List.getElem?_eq_getElem hk]; rfl
  rw [e] at this; exact this
theorem cAt_0 {qs : List Rat} {D' : List (List Rat)} : cAt ([qs] ++ D') 0 = qs := rfl
/-- the bent ones are no chances -/
theorem bent_false (c : Clo h) (W : WF ps) (T : TreeD t ps) (H : CH ps C) {n : Nat} : ∀ x ∈ [D.non, D.lst n, eT C.dropLast, eT ([[]] ++ C.tail), eT (C.dropLast ++ [[1]]), eT ([(cAt C 0).map fun _ => 0] ++ C.tail), eT ([cAt C 0 ++ [1]] ++ C.tail)], m_are_chances [t, x] h = .ok (.bl false) h := by
  have wl := W.len
  have w2 := W.two
  have hr := H.rows W
  have hd : ∀ qs ∈ C.dropLast, SzL 8 qs ∧ qs.length ≤ 10 := fun qs m => hr qs (by rw [List.dropLast_eq_take] at m; exact List.mem_of_mem_take m)
  have ht : ∀ qs ∈ C.tail, SzL 8 qs ∧ qs.length ≤ 10 := fun qs m => hr qs (List.mem_of_mem_tail m)
  have happ : ∀ A B : List (List Rat), (∀ qs ∈ A, SzL 8 qs ∧ qs.length ≤ 10) → (∀ qs ∈ B, SzL 8 qs ∧ qs.length ≤ 10) → ∀ qs ∈ A ++ B, SzL 8 qs ∧ qs.length ≤ 10 := fun A B a b qs m => by
    rcases List.mem_append.mp m with m | m
    · exact a qs m
    · exact b qs m
  have hone : ∀ q : List Rat, (SzL 8 q ∧ q.length ≤ 10) → ∀ qs ∈ [q], SzL 8 qs ∧ qs.length ≤ 10 := fun q z qs m => by rw [List.mem_singleton] at m; rw [m]; exact z
  have root : kd ps 0 ≠ [] := by
    obtain ⟨p, e, l⟩ := W.par 1 (by omega) (by omega)
    have : p = 0 := by omega
    subst this
    exact kd_ne e
  have hk0 : 0 < (kd ps 0).length := List.length_pos_iff.mpr root
  have hrow := H.row (show 0 < ps.length by omega)
  have z0 := H.szs W 0
  have f3 := W.few 0
  have hC : C.length = ps.length := H.len
  have last : kd ps (ps.length - 1) = [] := by
    match hk : kd ps (ps.length - 1) with
    | [] => rfl
    | j :: js =>
      have e := mem_kd.mp (show j ∈ kd ps (ps.length - 1) by rw [hk]; exact List.mem_cons_self ..)
      have h1 := W.back e
      have h2 := (List.getElem?_eq_some_iff.mp e).1
      omega
  intro x m
  simp only [List.mem_cons, List.not_mem_nil, or_false] at m
  rcases m with rfl | rfl | rfl | rfl | rfl | rfl | rfl
  · exact e_are_chancesN rfl
  · exact e_are_chancesN rfl
  · rw [e_are_chances c T wl (cAt_mem hd), notlen (by rw [List.length_dropLast, hC]; omega)]
  · rw [e_are_chances c T wl (cAt_mem (happ _ _ (hone [] ⟨(fun q m => by cases m), by simp⟩) ht)), notok (k := 0) (by omega) (okn_len (by rw [cAt_0]; simp; omega))]
  · rw [e_are_chances c T wl (cAt_mem (happ _ _ hd (hone [1] ⟨(fun q m => by rw [List.mem_singleton] at m; rw [m]; exact sz_1.mono (by decide)), by simp⟩))), notok (k := ps.length - 1) (by omega) (okn_len (by
      rw [last]
      unfold cAt
      rw [List.getElem?_append_right (by rw [List.length_dropLast, hC]; omega), List.length_dropLast, hC, Nat.sub_self]
      simp))]
  · rw [e_are_chances c T wl (cAt_mem (happ _ _ (hone _ ⟨(fun q m => by obtain ⟨_, _, rfl⟩ := List.mem_map.mp m; exact sz_0.mono (by decide)), by rw [List.length_map]; exact z0.2⟩) ht)), notok (k := 0) (by omega) (okn_neg (q := 0) (by
      rw [cAt_0]
      have : 0 < (cAt C 0).length := by rw [hrow]; exact hk0
      exact List.mem_map.mpr ⟨(cAt C 0)[0], List.getElem_mem _, rfl⟩) Rat.le_refl)]
  · rw [e_are_chances c T wl (cAt_mem (happ _ _ (hone _ ⟨(fun q m => by
      rcases List.mem_append.mp m with m | m
      · exact z0.1 q m
      · rw [List.mem_singleton] at m; rw [m]; exact sz_1.mono (by decide)), by rw [List.length_append, hrow]; simp; omega⟩) ht)), notok (k := 0) (by omega) (okn_len (by rw [cAt_0, List.length_append, hrow]; simp))]
theorem e_Ltrees {S : List Int × Int} (hS : Gd S) (cb : CloS b g) : Drw b g (fun d => d = .bl true) (m_Ltrees [.lst (b.length + 1)] (SH b S g)) := by
  suffices H : ∃ S' j, b_Ltrees (startD 15 [.lst (b.length + 1)]) (SH b S g) = .ok (.rt (.bl true)) (SH b S' (g ++ j)) ∧ Gd S' by
    obtain ⟨S', j, e, g'⟩ := H
    refine ⟨.bl true, S', ?_, g', rfl⟩
    unfold m_Ltrees mOf
    rw [e, ev_retR_rt]
    exact gc_SH cb SH_length rfl
  have hst : startD 15 [D.lst (b.length + 1)] = [some (.lst (b.length + 1)), none, none, none, none, none, none, none, none, none, none, none, none, none, none] := rfl
  rw [hst]
  unfold b_Ltrees
  obtain ⟨_, S1, x1, g1, i, rfl, i0, i1⟩ := e_Ltake (b := b) (g := g) hS (m := 3) (by decide) (by decide)
  obtain ⟨mm, hmm, m1, m3⟩ : ∃ n : Nat, 1 + i = (n : Int) ∧ 1 ≤ n ∧ n ≤ 3 := ⟨(1 + i).toNat, by omega, by omega, by omega⟩
  obtain ⟨t, S2, x2, g2, ps, W, T, pt⟩ := e_Ltree (b := b) (g := g) g1 cb m3 m1
  have wl := W.len
  have w2 := W.two
  rw [seq_nx (σ1 := [some (.lst (b.length + 1)), some t, none, none, none, none, none, none, none, none, none, none, none, none, none]) (h1 := SH b S2 g)]
  rotate_left
  · simp only [ev_c, ev_var, ev_nil, ev_cons, ev_tup, ev_lst, ev_op, ev_tst, ev_toB, ev_tru, ev_andT, ev_orT, ev_notT, ev_andV, ev_orV, ev_notV, ev_neg, ev_ifE, ev_no, ev_so, ev_sl, ev_cb, ev_isi, ev_mt, ev_lr1, ev_gc, ev_gct, ev_call, ev_nx, ev_seq, ev_exp, ev_ret, ev_if, ev_set, ev_asg, ev_par, ev_gnm, ev_gsb, ev_gsnil, ev_gscons, ev_gtp, ev_yes, ev_retR_rt, bind_ok, List.getElem?_cons_zero, List.getElem?_cons_succ, List.set_cons_zero, List.set_cons_succ, List.length_cons, List.length_nil, Nat.reduceAdd, Nat.reduceLeDiff, if_true, gc_same, gct_same, v_truB, Sm.v_add, Sm.v_sub, isL_lst, decide_true, decide_false, Bool.not_true, Bool.not_false, Bool.false_eq_true, if_false, x1, gcS, hmm, x2]
  obtain ⟨nodes, t1, t2⟩ := tree_len (h := SH b S2 g) T
  obtain ⟨_, S3, x3, g3', rw', rfl, lr, zr⟩ := e_Lrow (b := b) (g := g) g2 cb T (by omega)
  rw [seq_nx (σ1 := [some (.lst (b.length + 1)), some t, some (.int ps.length), some (eR rw'), none, none, none, none, none, none, none, none, none, none, none]) (h1 := SH b S3 g)]
  rotate_left
  · simp only [ev_c, ev_var, ev_nil, ev_cons, ev_tup, ev_lst, ev_op, ev_tst, ev_toB, ev_tru, ev_andT, ev_orT, ev_notT, ev_andV, ev_orV, ev_notV, ev_neg, ev_ifE, ev_no, ev_so, ev_sl, ev_cb, ev_isi, ev_mt, ev_lr1, ev_gc, ev_gct, ev_call, ev_nx, ev_seq, ev_exp, ev_ret, ev_if, ev_set, ev_asg, ev_par, ev_gnm, ev_gsb, ev_gsnil, ev_gscons, ev_gtp, ev_yes, ev_retR_rt, bind_ok, List.getElem?_cons_zero, List.getElem?_cons_succ, List.set_cons_zero, List.set_cons_succ, List.length_cons, List.length_nil, Nat.reduceAdd, Nat.reduceLeDiff, if_true, gc_same, gct_same, v_truB, Sm.v_add, Sm.v_sub, isL_lst, decide_true, decide_false, Bool.not_true, Bool.not_false, Bool.false_eq_true, if_false, t1, t2, x3, gcS]
  obtain ⟨jk, kl, ek, K, C3⟩ := kids_step cb W T
  rw [seq_nx (σ1 := [some (.lst (b.length + 1)), some t, some (.int ps.length), some (eR rw'), some kl, none, none, none, none, none, none, none, none, none, none]) (h1 := SH b S3 (g ++ jk))]
  rotate_left
  · rw [ev_set, ek S3 _ rfl rfl (by simp), bind_ok]
    rfl
  generalize hg3 : g ++ jk = g3 at K C3
  obtain ⟨vd, S4, x4, g4, lv, hv⟩ := fLc_drw_rg (b := b) (g := g3) (own := [7]) (fa := fVar 2) (tgt := gNm 7) (elt := fIfE (fGcT (fTst (fOp dNe (fOp dIx (fVar 4) (fVar 7)) (fLst fNil)))) (fGc (fCall 2 m_Lchances (fCons (fVar 0) (fCons (fCB cLen (fCons (fOp dIx (fVar 4) (fVar 7)) fNil)) fNil)))) (fTup fNil)) (σ := [some (.lst (b.length + 1)), some t, some (.int ps.length), some (eR rw'), some kl, none, none, none, none, none, none, none, none, none, none]) (S := S3) (n := ps.length) g3' (by simp) (by omega) (fun k v => ∃ cs, v = eR cs ∧ (kd ps k = [] → cs = []) ∧ (kd ps k ≠ [] → Chn (kd ps k).length cs)) (by
    intro k S hk hS
    refine ⟨_, rfl, draw_row hS C3 W K hk rfl fun S => ?_⟩
    obtain ⟨id, a, b⟩ := (K.kl S).ix hk
    exact ⟨id, by simp only [wipeD, ev_c, ev_var, ev_nil, ev_cons, ev_tup, ev_lst, ev_op, ev_tst, ev_toB, ev_tru, ev_andT, ev_orT, ev_notT, ev_andV, ev_orV, ev_notV, ev_neg, ev_ifE, ev_no, ev_so, ev_sl, ev_cb, ev_isi, ev_mt, ev_lr1, ev_gc, ev_gct, ev_call, ev_nx, ev_seq, ev_exp, ev_ret, ev_if, ev_set, ev_asg, ev_par, ev_gnm, ev_gsb, ev_gsnil, ev_gscons, ev_gtp, ev_yes, ev_retR_rt, bind_ok, List.getElem?_cons_zero, List.getElem?_cons_succ, List.set_cons_zero, List.set_cons_succ, List.length_cons, List.length_nil, Nat.reduceAdd, Nat.reduceLeDiff, if_true, gc_same, gct_same, v_truB, Sm.v_add, Sm.v_sub, isL_lst, decide_true, decide_false, Bool.not_true, Bool.not_false, Bool.false_eq_true, if_false, a], b⟩)
  obtain ⟨C, rfl, H⟩ := rows_CH lv hv
  have pC : D.puL (C.map eR) = true := eT_pu C
  have H4 : Clo (SH b S4 g3) := C3 S4
  have n4 : gcR (SH b S3 g3).length (.ok (.lst (SH b S4 g3).length) (SH b S4 g3 ++ [.lst (C.map eR)])) = .ok (.lst (SH b S4 g3).length) (SH b S4 g3 ++ [.lst (C.map eR)]) := by
    rw [show (SH b S3 g3).length = (SH b S4 g3).length by rw [SH_length, SH_length]]
    exact gc_np H4 pC
  have n4' : gcR (SH b S3 g3).length (cTup [.lst (SH b S4 g3).length] (SH b S4 g3 ++ [.lst (C.map eR)])) = .ok (eT C) (SH b S4 g3) := by
    rw [show (SH b S3 g3).length = (SH b S4 g3).length by rw [SH_length, SH_length]]
    exact tup_gc H4 pC
  rw [seq_nx (σ1 := [some (.lst (b.length + 1)), some t, some (.int ps.length), some (eR rw'), some kl, some (eT C), none, none, none, none, none, none, none, none, none]) (h1 := SH b S4 g3)]
  rotate_left
  · simp only [ev_c, ev_var, ev_nil, ev_cons, ev_tup, ev_lst, ev_op, ev_tst, ev_toB, ev_tru, ev_andT, ev_orT, ev_notT, ev_andV, ev_orV, ev_notV, ev_neg, ev_ifE, ev_no, ev_so, ev_sl, ev_cb, ev_isi, ev_mt, ev_lr1, ev_gc, ev_gct, ev_call, ev_nx, ev_seq, ev_exp, ev_ret, ev_if, ev_set, ev_asg, ev_par, ev_gnm, ev_gsb, ev_gsnil, ev_gscons, ev_gtp, ev_yes, ev_retR_rt, bind_ok, List.getElem?_cons_zero, List.getElem?_cons_succ, List.set_cons_zero, List.set_cons_succ, List.length_cons, List.length_nil, Nat.reduceAdd, Nat.reduceLeDiff, if_true, gc_same, gct_same, v_truB, Sm.v_add, Sm.v_sub, isL_lst, decide_true, decide_false, Bool.not_true, Bool.not_false, Bool.false_eq_true, if_false, x4, n4, n4']
  obtain ⟨dp, hd, hd3⟩ := W.deep
  have wt := wF_ok (C := C) W hd
  generalize (fun k => wF ps C (dp k) k) = w at wt
  have zw : ∀ k, k < ps.length → Sz 16 (w k) := fun k l => (wt.sz W H hd k l).mono (by have := hd3 k; omega)
  have h11 : (D.tup [.int 1, .int 1]) = eQ 1 := rfl
  have a5 : allocD [eQ 1] (SH b S4 g3) = .ok (.lst (SH b S4 g3).length) (SH b S4 g3 ++ [.lst [eQ 1]]) := v_alloc (by simp)
  have n5 := rep_gc H4 (n := ps.length) (x := eQ 1) (by omega) (eQ_pu 1)
  rw [rep_eQ] at n5
  rw [seq_nx (σ1 := [some (D.lst (b.length + 1)), some t, some (D.int ps.length), some (eR rw'), some kl, some (eT C), some (D.lst (SH b S4 g3).length), none, none, none, none, none, none, none, none]) (h1 := SH b S4 g3 ++ [.lst ((List.replicate ps.length (1 : Rat)).map eQ)])]
  rotate_left
  · simp only [ev_c, ev_var, ev_nil, ev_cons, ev_tup, ev_lst, ev_op, ev_tst, ev_toB, ev_tru, ev_andT, ev_orT, ev_notT, ev_andV, ev_orV, ev_notV, ev_neg, ev_ifE, ev_no, ev_so, ev_sl, ev_cb, ev_isi, ev_mt, ev_lr1, ev_gc, ev_gct, ev_call, ev_nx, ev_seq, ev_exp, ev_ret, ev_if, ev_set, ev_asg, ev_par, ev_gnm, ev_gsb, ev_gsnil, ev_gscons, ev_gtp, ev_yes, ev_retR_rt, bind_ok, List.getElem?_cons_zero, List.getElem?_cons_succ, List.set_cons_zero, List.set_cons_succ, List.length_cons, List.length_nil, Nat.reduceAdd, Nat.reduceLeDiff, if_true, gc_same, gct_same, v_truB, Sm.v_add, Sm.v_sub, isL_lst, decide_true, decide_false, Bool.not_true, Bool.not_false, Bool.false_eq_true, if_false, h11, a5, n5]
  obtain ⟨z7, z8, x6⟩ := weights_loop (v0 := .lst (b.length + 1)) (v3 := eR rw') H4 W T H (K.kl S4) wt zw
  rw [seq_nx x6]
  -- the weights are there
  have C4 : CloS b (g3 ++ [HE.lst (((List.range ps.length).map w).map eQ)]) := C3.pushP (eQs_pu _)
  have K4 : KS b (g3 ++ [HE.lst (((List.range ps.length).map w).map eQ)]) kl ps := K.app
  have H5 : Clo (SH b S4 (g3 ++ [HE.lst (((List.range ps.length).map w).map eQ)])) := C4 S4
  have hW : (SH b S4 (g3 ++ [HE.lst (((List.range ps.length).map w).map eQ)]))[(SH b S4 g3).length]? = some (.lst (((List.range ps.length).map w).map eQ)) := by rw [SH_assoc]; exact get_0
  rw [show SH b S4 g3 ++ [HE.lst (((List.range ps.length).map w).map eQ)] = SH b S4 (g3 ++ [HE.lst (((List.range ps.length).map w).map eQ)]) from SH_app]
  have zwl : SzL 16 ((List.range ps.length).map w) := fun q m => by
    obtain ⟨k, mk, rfl⟩ := List.mem_map.mp m
    exact zw k (List.mem_range.mp mk)
  have y1 := e_are_chances H5 T wl (H.szs W)
  rw [H.ok] at y1
  have y2 := fLc_rg (own := [7]) (fa := fVar 2) (tgt := gNm 7) (elt := fGc (fCall 3 m_chance (fCons (fVar 1) (fCons (fVar 5) (fCons (fVar 7) fNil))))) (σ := [some (D.lst (b.length + 1)), some t, some (D.int ps.length), some (eR rw'), some kl, some (eT C), some (D.lst (SH b S4 g3).length), z7, z8, none, none, none, none, none, none]) (h := SH b S4 (g3 ++ [HE.lst (((List.range ps.length).map w).map eQ)])) (n := ps.length) (by simp) (by omega) (fun k => eQ (w k)) (by
    intro k hk
    refine ⟨_, rfl, ?_⟩
    simp only [wipeD, ev_c, ev_var, ev_nil, ev_cons, ev_tup, ev_lst, ev_op, ev_tst, ev_toB, ev_tru, ev_andT, ev_orT, ev_notT, ev_andV, ev_orV, ev_notV, ev_neg, ev_ifE, ev_no, ev_so, ev_sl, ev_cb, ev_isi, ev_mt, ev_lr1, ev_gc, ev_gct, ev_call, ev_nx, ev_seq, ev_exp, ev_ret, ev_if, ev_set, ev_asg, ev_par, ev_gnm, ev_gsb, ev_gsnil, ev_gscons, ev_gtp, ev_yes, ev_retR_rt, bind_ok, List.getElem?_cons_zero, List.getElem?_cons_succ, List.set_cons_zero, List.set_cons_succ, List.length_cons, List.length_nil, Nat.reduceAdd, Nat.reduceLeDiff, if_true, gc_same, gct_same, v_truB, Sm.v_add, Sm.v_sub, isL_lst, decide_true, decide_false, Bool.not_true, Bool.not_false, Bool.false_eq_true, if_false, e_chance H5 W T H wt hd hd3 hk])
  have em2 : (List.range ps.length).map (fun k => eQ (w k)) = (((List.range ps.length).map w).map eQ) := by simp
  rw [em2] at y2
  have n6 : dNe (.lst (SH b S4 (g3 ++ [HE.lst (((List.range ps.length).map w).map eQ)])).length) (.lst (SH b S4 g3).length) (SH b S4 (g3 ++ [HE.lst (((List.range ps.length).map w).map eQ)]) ++ [.lst (((List.range ps.length).map w).map eQ)]) = .ok (.bl false) (SH b S4 (g3 ++ [HE.lst (((List.range ps.length).map w).map eQ)]) ++ [.lst (((List.range ps.length).map w).map eQ)]) := ne_eQs (qs := (List.range ps.length).map w) (by simp) (by rw [List.getElem?_append_left (List.getElem?_eq_some_iff.mp hW).1]; exact hW)
  obtain ⟨y3, _⟩ := e_mean H5 W T H wt hd hd3 lr zr
  have y4 : m_Ldot [.lst (SH b S4 g3).length, eR rw'] (SH b S4 (g3 ++ [HE.lst (((List.range ps.length).map w).map eQ)])) = .ok (eQ (sm (fun k => w k * Vf rw' k) (List.range ps.length))) (SH b S4 (g3 ++ [HE.lst (((List.range ps.length).map w).map eQ)])) := by
    have e := e_Ldot (ps := (List.range ps.length).map w) (qs := rw') (d := .lst (SH b S4 g3).length) (e := eR rw') H5 (sqn_l hW) sqn_t zwl zr (by simp; omega) (by simp; omega) (by decide) (by decide)
    rw [e, tot_pro (by simp [lr]), lr]
    congr 2
    exact sm_congr fun k mk => by rw [Vf_map (List.mem_range.mp mk)]
  rw [seq_nx (σ1 := [some (D.lst (b.length + 1)), some t, some (D.int ps.length), some (eR rw'), some kl, some (eT C), some (D.lst (SH b S4 g3).length), z7, z8, none, none, none, none, none, none]) (h1 := SH b S4 (g3 ++ [HE.lst (((List.range ps.length).map w).map eQ)]))]
  rotate_left
  · rw [if_f (h1 := SH b S4 (g3 ++ [HE.lst (((List.range ps.length).map w).map eQ)]))]
    · rfl
    · refine or_f (h1 := SH b S4 (g3 ++ [HE.lst (((List.range ps.length).map w).map eQ)])) ?_ (or_f (h1 := SH b S4 (g3 ++ [HE.lst (((List.range ps.length).map w).map eQ)])) ?_ ?_)
      · simp only [ev_c, ev_var, ev_nil, ev_cons, ev_tup, ev_lst, ev_op, ev_tst, ev_toB, ev_tru, ev_andT, ev_orT, ev_notT, ev_andV, ev_orV, ev_notV, ev_neg, ev_ifE, ev_no, ev_so, ev_sl, ev_cb, ev_isi, ev_mt, ev_lr1, ev_gc, ev_gct, ev_call, ev_nx, ev_seq, ev_exp, ev_ret, ev_if, ev_set, ev_asg, ev_par, ev_gnm, ev_gsb, ev_gsnil, ev_gscons, ev_gtp, ev_yes, ev_retR_rt, bind_ok, List.getElem?_cons_zero, List.getElem?_cons_succ, List.set_cons_zero, List.set_cons_succ, List.length_cons, List.length_nil, Nat.reduceAdd, Nat.reduceLeDiff, if_true, gc_same, gct_same, v_truB, Sm.v_add, Sm.v_sub, isL_lst, decide_true, decide_false, Bool.not_true, Bool.not_false, Bool.false_eq_true, if_false, y1, v_isntB]
      · simp only [ev_c, ev_var, ev_nil, ev_cons, ev_tup, ev_lst, ev_op, ev_tst, ev_toB, ev_tru, ev_andT, ev_orT, ev_notT, ev_andV, ev_orV, ev_notV, ev_neg, ev_ifE, ev_no, ev_so, ev_sl, ev_cb, ev_isi, ev_mt, ev_lr1, ev_gc, ev_gct, ev_call, ev_nx, ev_seq, ev_exp, ev_ret, ev_if, ev_set, ev_asg, ev_par, ev_gnm, ev_gsb, ev_gsnil, ev_gscons, ev_gtp, ev_yes, ev_retR_rt, bind_ok, List.getElem?_cons_zero, List.getElem?_cons_succ, List.set_cons_zero, List.set_cons_succ, List.length_cons, List.length_nil, Nat.reduceAdd, Nat.reduceLeDiff, if_true, gc_same, gct_same, v_truB, Sm.v_add, Sm.v_sub, isL_lst, decide_true, decide_false, Bool.not_true, Bool.not_false, Bool.false_eq_true, if_false, y2, gc_np H5 (eQs_pu _), n6, gct_drop H5]
      · simp only [ev_c, ev_var, ev_nil, ev_cons, ev_tup, ev_lst, ev_op, ev_tst, ev_toB, ev_tru, ev_andT, ev_orT, ev_notT, ev_andV, ev_orV, ev_notV, ev_neg, ev_ifE, ev_no, ev_so, ev_sl, ev_cb, ev_isi, ev_mt, ev_lr1, ev_gc, ev_gct, ev_call, ev_nx, ev_seq, ev_exp, ev_ret, ev_if, ev_set, ev_asg, ev_par, ev_gnm, ev_gsb, ev_gsnil, ev_gscons, ev_gtp, ev_yes, ev_retR_rt, bind_ok, List.getElem?_cons_zero, List.getElem?_cons_succ, List.set_cons_zero, List.set_cons_succ, List.length_cons, List.length_nil, Nat.reduceAdd, Nat.reduceLeDiff, if_true, gc_same, gct_same, v_truB, Sm.v_add, Sm.v_sub, isL_lst, decide_true, decide_false, Bool.not_true, Bool.not_false, Bool.false_eq_true, if_false, y3, y4, ne_eQ]
  -- even ones
  have KL4 := K4.kl S4
  have y5 := fLc_rg (own := [7]) (fa := fVar 2) (tgt := gNm 7) (elt := fGc (fCB cTup (fCons (fGc (fLc [13] (iSeq (fOp dIx (fVar 4) (fVar 7))) (gNm 13) fYes (fGc (fCall 2 m_Lpart (fCons (fC (.int 1)) (fCons (fCB cLen (fCons (fOp dIx (fVar 4) (fVar 7)) fNil)) fNil)))))) fNil))) (σ := [some (D.lst (b.length + 1)), some t, some (D.int ps.length), some (eR rw'), some kl, some (eT C), some (D.lst (SH b S4 g3).length), z7, z8, none, none, none, none, none, none]) (h := SH b S4 (g3 ++ [HE.lst (((List.range ps.length).map w).map eQ)])) (n := ps.length) (by simp) (by omega) (fun k => eR (List.replicate (kd ps k).length (Q 1 (kd ps k).length))) (by
    intro k hk
    obtain ⟨id, a, gk⟩ := KL4.ix hk
    have hf := W.few k
    refine ⟨_, rfl, ?_⟩
    have el : cLen [.lst id] (SH b S4 (g3 ++ [HE.lst (((List.range ps.length).map w).map eQ)])) = .ok (.int (kd ps k).length) (SH b S4 (g3 ++ [HE.lst (((List.range ps.length).map w).map eQ)])) := by rw [v_len (dI_lst gk), List.length_map]
    have y := fLc_mpy (own := [13]) (fe := fOp dIx (fVar 4) (fVar 7)) (tgt := gNm 13) (elt := fGc (fCall 2 m_Lpart (fCons (fC (.int 1)) (fCons (fCB cLen (fCons (fOp dIx (fVar 4) (fVar 7)) fNil)) fNil)))) (σ := [some (D.lst (b.length + 1)), some t, some (D.int ps.length), some (eR rw'), some kl, some (eT C), some (D.lst (SH b S4 g3).length), some (.int k), z8, none, none, none, none, none, none]) (h := SH b S4 (g3 ++ [HE.lst (((List.range ps.length).map w).map eQ)])) (d := .lst id) eI (kd ps k) (sqn_l gk) (by simp only [ev_c, ev_var, ev_nil, ev_cons, ev_tup, ev_lst, ev_op, ev_tst, ev_toB, ev_tru, ev_andT, ev_orT, ev_notT, ev_andV, ev_orV, ev_notV, ev_neg, ev_ifE, ev_no, ev_so, ev_sl, ev_cb, ev_isi, ev_mt, ev_lr1, ev_gc, ev_gct, ev_call, ev_nx, ev_seq, ev_exp, ev_ret, ev_if, ev_set, ev_asg, ev_par, ev_gnm, ev_gsb, ev_gsnil, ev_gscons, ev_gtp, ev_yes, ev_retR_rt, bind_ok, List.getElem?_cons_zero, List.getElem?_cons_succ, List.set_cons_zero, List.set_cons_succ, List.length_cons, List.length_nil, Nat.reduceAdd, Nat.reduceLeDiff, if_true, gc_same, gct_same, v_truB, Sm.v_add, Sm.v_sub, isL_lst, decide_true, decide_false, Bool.not_true, Bool.not_false, Bool.false_eq_true, if_false, a]) (by omega) (fun _ => eQ (Q 1 (kd ps k).length)) (by
      intro x mx
      have hp : 0 < (kd ps k).length := List.length_pos_of_mem mx
      have hq := e_Lpart (a := 1) (b := (kd ps k).length) (by omega) (by
        refine Nat.lt_of_lt_of_le (show ((kd ps k).length : Int).natAbs < 2 ^ 2 by omega) ?_
        exact Nat.pow_le_pow_right (by decide) (by decide)) (SH b S4 (g3 ++ [HE.lst (((List.range ps.length).map w).map eQ)]))
      refine ⟨_, rfl, ?_⟩
      simp only [wipeD, ev_c, ev_var, ev_nil, ev_cons, ev_tup, ev_lst, ev_op, ev_tst, ev_toB, ev_tru, ev_andT, ev_orT, ev_notT, ev_andV, ev_orV, ev_notV, ev_neg, ev_ifE, ev_no, ev_so, ev_sl, ev_cb, ev_isi, ev_mt, ev_lr1, ev_gc, ev_gct, ev_call, ev_nx, ev_seq, ev_exp, ev_ret, ev_if, ev_set, ev_asg, ev_par, ev_gnm, ev_gsb, ev_gsnil, ev_gscons, ev_gtp, ev_yes, ev_retR_rt, bind_ok, List.getElem?_cons_zero, List.getElem?_cons_succ, List.set_cons_zero, List.set_cons_succ, List.length_cons, List.length_nil, Nat.reduceAdd, Nat.reduceLeDiff, if_true, gc_same, gct_same, v_truB, Sm.v_add, Sm.v_sub, isL_lst, decide_true, decide_false, Bool.not_true, Bool.not_false, Bool.false_eq_true, if_false, a, el, hq])
    have em : (kd ps k).map (fun _ => eQ (Q 1 (kd ps k).length)) = (List.replicate (kd ps k).length (Q 1 (kd ps k).length)).map eQ := by simp [List.map_const']
    rw [em] at y
    have et : gcR (SH b S4 (g3 ++ [HE.lst (((List.range ps.length).map w).map eQ)])).length (cTup [.lst (SH b S4 (g3 ++ [HE.lst (((List.range ps.length).map w).map eQ)])).length] (SH b S4 (g3 ++ [HE.lst (((List.range ps.length).map w).map eQ)]) ++ [.lst ((List.replicate (kd ps k).length (Q 1 (kd ps k).length)).map eQ)])) = .ok (eR (List.replicate (kd ps k).length (Q 1 (kd ps k).length))) (SH b S4 (g3 ++ [HE.lst (((List.range ps.length).map w).map eQ)])) := tup_gc H5 (eQs_pu _)
    simp only [wipeD, ev_c, ev_var, ev_nil, ev_cons, ev_tup, ev_lst, ev_op, ev_tst, ev_toB, ev_tru, ev_andT, ev_orT, ev_notT, ev_andV, ev_orV, ev_notV, ev_neg, ev_ifE, ev_no, ev_so, ev_sl, ev_cb, ev_isi, ev_mt, ev_lr1, ev_gc, ev_gct, ev_call, ev_nx, ev_seq, ev_exp, ev_ret, ev_if, ev_set, ev_asg, ev_par, ev_gnm, ev_gsb, ev_gsnil, ev_gscons, ev_gtp, ev_yes, ev_retR_rt, bind_ok, List.getElem?_cons_zero, List.getElem?_cons_succ, List.set_cons_zero, List.set_cons_succ, List.length_cons, List.length_nil, Nat.reduceAdd, Nat.reduceLeDiff, if_true, gc_same, gct_same, v_truB, Sm.v_add, Sm.v_sub, isL_lst, decide_true, decide_false, Bool.not_true, Bool.not_false, Bool.false_eq_true, if_false, y, gc_np H5 (eQs_pu _), et])
  have em5 : (List.range ps.length).map (fun k => eR (List.replicate (kd ps k).length (Q 1 (kd ps k).length))) = (evn ps).map eR := by simp [evn]
  rw [em5] at y5
  have pE : D.puL ((evn ps).map eR) = true := eT_pu (evn ps)
  have et5 : gcR (SH b S4 (g3 ++ [HE.lst (((List.range ps.length).map w).map eQ)])).length (cTup [.lst (SH b S4 (g3 ++ [HE.lst (((List.range ps.length).map w).map eQ)])).length] (SH b S4 (g3 ++ [HE.lst (((List.range ps.length).map w).map eQ)]) ++ [.lst ((evn ps).map eR)])) = .ok (eT (evn ps)) (SH b S4 (g3 ++ [HE.lst (((List.range ps.length).map w).map eQ)])) := tup_gc H5 pE
  rw [seq_nx (σ1 := [some (D.lst (b.length + 1)), some t, some (D.int ps.length), some (eR rw'), some kl, some (eT C), some (D.lst (SH b S4 g3).length), z7, z8, some (eT (evn ps)), none, none, none, none, none]) (h1 := SH b S4 (g3 ++ [HE.lst (((List.range ps.length).map w).map eQ)]))]
  rotate_left
  · simp only [ev_c, ev_var, ev_nil, ev_cons, ev_tup, ev_lst, ev_op, ev_tst, ev_toB, ev_tru, ev_andT, ev_orT, ev_notT, ev_andV, ev_orV, ev_notV, ev_neg, ev_ifE, ev_no, ev_so, ev_sl, ev_cb, ev_isi, ev_mt, ev_lr1, ev_gc, ev_gct, ev_call, ev_nx, ev_seq, ev_exp, ev_ret, ev_if, ev_set, ev_asg, ev_par, ev_gnm, ev_gsb, ev_gsnil, ev_gscons, ev_gtp, ev_yes, ev_retR_rt, bind_ok, List.getElem?_cons_zero, List.getElem?_cons_succ, List.set_cons_zero, List.set_cons_succ, List.length_cons, List.length_nil, Nat.reduceAdd, Nat.reduceLeDiff, if_true, gc_same, gct_same, v_truB, Sm.v_add, Sm.v_sub, isL_lst, decide_true, decide_false, Bool.not_true, Bool.not_false, Bool.false_eq_true, if_false, y5, gc_np H5 pE, et5]
  have y6 := e_even H5 W T
  have HE' := CH_evn W
  have y7 := e_are_chances H5 T wl (HE'.szs W)
  rw [HE'.ok] at y7
  rw [seq_nx (σ1 := [some (D.lst (b.length + 1)), some t, some (D.int ps.length), some (eR rw'), some kl, some (eT C), some (D.lst (SH b S4 g3).length), z7, z8, some (eT (evn ps)), none, none, none, none, none]) (h1 := SH b S4 (g3 ++ [HE.lst (((List.range ps.length).map w).map eQ)]))]
  rotate_left
  · rw [if_f (h1 := SH b S4 (g3 ++ [HE.lst (((List.range ps.length).map w).map eQ)]))]
    · rfl
    · refine or_f (h1 := SH b S4 (g3 ++ [HE.lst (((List.range ps.length).map w).map eQ)])) ?_ ?_
      · simp only [ev_c, ev_var, ev_nil, ev_cons, ev_tup, ev_lst, ev_op, ev_tst, ev_toB, ev_tru, ev_andT, ev_orT, ev_notT, ev_andV, ev_orV, ev_notV, ev_neg, ev_ifE, ev_no, ev_so, ev_sl, ev_cb, ev_isi, ev_mt, ev_lr1, ev_gc, ev_gct, ev_call, ev_nx, ev_seq, ev_exp, ev_ret, ev_if, ev_set, ev_asg, ev_par, ev_gnm, ev_gsb, ev_gsnil, ev_gscons, ev_gtp, ev_yes, ev_retR_rt, bind_ok, List.getElem?_cons_zero, List.getElem?_cons_succ, List.set_cons_zero, List.set_cons_succ, List.length_cons, List.length_nil, Nat.reduceAdd, Nat.reduceLeDiff, if_true, gc_same, gct_same, v_truB, Sm.v_add, Sm.v_sub, isL_lst, decide_true, decide_false, Bool.not_true, Bool.not_false, Bool.false_eq_true, if_false, y6, ne_eT]
      · simp only [ev_c, ev_var, ev_nil, ev_cons, ev_tup, ev_lst, ev_op, ev_tst, ev_toB, ev_tru, ev_andT, ev_orT, ev_notT, ev_andV, ev_orV, ev_notV, ev_neg, ev_ifE, ev_no, ev_so, ev_sl, ev_cb, ev_isi, ev_mt, ev_lr1, ev_gc, ev_gct, ev_call, ev_nx, ev_seq, ev_exp, ev_ret, ev_if, ev_set, ev_asg, ev_par, ev_gnm, ev_gsb, ev_gsnil, ev_gscons, ev_gtp, ev_yes, ev_retR_rt, bind_ok, List.getElem?_cons_zero, List.getElem?_cons_succ, List.set_cons_zero, List.set_cons_succ, List.length_cons, List.length_nil, Nat.reduceAdd, Nat.reduceLeDiff, if_true, gc_same, gct_same, v_truB, Sm.v_add, Sm.v_sub, isL_lst, decide_true, decide_false, Bool.not_true, Bool.not_false, Bool.false_eq_true, if_false, y7, v_isntB]
  -- bent ones
  have hC : C.length = ps.length := H.len
  have cne : C ≠ [] := fun z => by rw [z] at hC; simp at hC; omega
  have C5 : CloS b (g3 ++ [HE.lst (((List.range ps.length).map w).map eQ)] ++ [HE.lst (C.map eR)]) := C4.pushP pC
  have H6 : Clo (SH b S4 (g3 ++ [HE.lst (((List.range ps.length).map w).map eQ)] ++ [HE.lst (C.map eR)])) := C5 S4
  have C6 : CloS b ((g3 ++ [HE.lst (((List.range ps.length).map w).map eQ)] ++ [HE.lst (C.map eR)]) ++ [.lst [D.non, D.lst (SH b S4 (g3 ++ [HE.lst (((List.range ps.length).map w).map eQ)])).length, eT C.dropLast, eT ([[]] ++ C.tail), eT (C.dropLast ++ [[1]]), eT ([(cAt C 0).map fun _ => 0] ++ C.tail), eT ([cAt C 0 ++ [1]] ++ C.tail)]]) := C5.push (by
    have hx : D.cl (b.length + ((g3 ++ [HE.lst (((List.range ps.length).map w).map eQ)] ++ [HE.lst (C.map eR)]).length + 2)) (.lst (SH b S4 (g3 ++ [HE.lst (((List.range ps.length).map w).map eQ)])).length) = true := decide_eq_true (by rw [SH_length, List.length_append, List.length_append, List.length_append]; simp only [List.length_cons, List.length_nil]; omega)
    have hp : ∀ qs : List (List Rat), D.cl (b.length + ((g3 ++ [HE.lst (((List.range ps.length).map w).map eQ)] ++ [HE.lst (C.map eR)]).length + 2)) (eT qs) = true := fun qs => cl_pu _ _ (eT_pu qs)
    simp only [D.clL, hx, hp, Bool.and_true]
    rfl)
  have H7 : Clo (SH b S4 ((g3 ++ [HE.lst (((List.range ps.length).map w).map eQ)] ++ [HE.lst (C.map eR)]) ++ [.lst [D.non, D.lst (SH b S4 (g3 ++ [HE.lst (((List.range ps.length).map w).map eQ)])).length, eT C.dropLast, eT ([[]] ++ C.tail), eT (C.dropLast ++ [[1]]), eT ([(cAt C 0).map fun _ => 0] ++ C.tail), eT ([cAt C 0 ++ [1]] ++ C.tail)]])) := C6 S4
  have e5 : SH b S4 (g3 ++ [HE.lst (((List.range ps.length).map w).map eQ)]) ++ [HE.lst (C.map eR)] = SH b S4 (g3 ++ [HE.lst (((List.range ps.length).map w).map eQ)] ++ [HE.lst (C.map eR)]) := SH_app
  have v1 := v_listT (h := SH b S4 (g3 ++ [HE.lst (((List.range ps.length).map w).map eQ)])) (qs := C) (by omega)
  have n7 : gcR (SH b S4 (g3 ++ [HE.lst (((List.range ps.length).map w).map eQ)])).length (.ok (.lst (SH b S4 (g3 ++ [HE.lst (((List.range ps.length).map w).map eQ)])).length) (SH b S4 (g3 ++ [HE.lst (((List.range ps.length).map w).map eQ)]) ++ [.lst (C.map eR)])) = .ok (.lst (SH b S4 (g3 ++ [HE.lst (((List.range ps.length).map w).map eQ)])).length) (SH b S4 (g3 ++ [HE.lst (((List.range ps.length).map w).map eQ)] ++ [HE.lst (C.map eR)])) := by rw [gc_np H5 pC, e5]
  have k1 : (D.tup [D.tup []]) = eT [[]] := rfl
  have k2 : (D.tup [D.tup [eQ 1]]) = eT [[1]] := rfl
  have k3 : ∀ qs : List Rat, (D.tup [eR qs]) = eT [qs] := fun _ => rfl
  have k4 : (D.tup [eQ 1]) = eR [1] := rfl
  have k5 : (D.tup [.int 0, .int 1]) = eQ 0 := rfl
  have ix0 : dIx (eT C) (.int 0) (SH b S4 (g3 ++ [HE.lst (((List.range ps.length).map w).map eQ)] ++ [HE.lst (C.map eR)])) = .ok (eR (cAt C 0)) (SH b S4 (g3 ++ [HE.lst (((List.range ps.length).map w).map eQ)] ++ [HE.lst (C.map eR)])) := v_ixT (k := 0) (by omega)
  have hrow := H.row (show 0 < ps.length by omega)
  have f0 := W.few 0
  have q1 : dAdd (eT [[]]) (eT C.tail) (SH b S4 (g3 ++ [HE.lst (((List.range ps.length).map w).map eQ)] ++ [HE.lst (C.map eR)])) = .ok (eT ([[]] ++ C.tail)) (SH b S4 (g3 ++ [HE.lst (((List.range ps.length).map w).map eQ)] ++ [HE.lst (C.map eR)])) := add_eT (by simp; omega)
  have q2 : dAdd (eT C.dropLast) (eT [[1]]) (SH b S4 (g3 ++ [HE.lst (((List.range ps.length).map w).map eQ)] ++ [HE.lst (C.map eR)])) = .ok (eT (C.dropLast ++ [[1]])) (SH b S4 (g3 ++ [HE.lst (((List.range ps.length).map w).map eQ)] ++ [HE.lst (C.map eR)])) := add_eT (by simp; omega)
  have q3 : dAdd (eT [(cAt C 0).map fun _ => 0]) (eT C.tail) (SH b S4 (g3 ++ [HE.lst (((List.range ps.length).map w).map eQ)] ++ [HE.lst (C.map eR)])) = .ok (eT ([(cAt C 0).map fun _ => 0] ++ C.tail)) (SH b S4 (g3 ++ [HE.lst (((List.range ps.length).map w).map eQ)] ++ [HE.lst (C.map eR)])) := add_eT (by simp; omega)
  have q4 : dAdd (eR (cAt C 0)) (eR [1]) (SH b S4 (g3 ++ [HE.lst (((List.range ps.length).map w).map eQ)] ++ [HE.lst (C.map eR)])) = .ok (eR (cAt C 0 ++ [1])) (SH b S4 (g3 ++ [HE.lst (((List.range ps.length).map w).map eQ)] ++ [HE.lst (C.map eR)])) := add_eR (by simp; omega)
  have q5 : dAdd (eT [cAt C 0 ++ [1]]) (eT C.tail) (SH b S4 (g3 ++ [HE.lst (((List.range ps.length).map w).map eQ)] ++ [HE.lst (C.map eR)])) = .ok (eT ([cAt C 0 ++ [1]] ++ C.tail)) (SH b S4 (g3 ++ [HE.lst (((List.range ps.length).map w).map eQ)] ++ [HE.lst (C.map eR)])) := add_eT (by simp; omega)
  have y8 := fLc_mpy (own := [13]) (fe := fOp dIx (fVar 5) (fC (.int 0))) (tgt := gNm 13) (elt := fTup (fCons (fC (.int 0)) (fCons (fC (.int 1)) fNil))) (σ := [some (D.lst (b.length + 1)), some t, some (D.int ps.length), some (eR rw'), some kl, some (eT C), some (D.lst (SH b S4 g3).length), z7, z8, some (eT (evn ps)), none, none, none, none, none]) (h := SH b S4 (g3 ++ [HE.lst (((List.range ps.length).map w).map eQ)] ++ [HE.lst (C.map eR)])) (d := eR (cAt C 0)) eQ (cAt C 0) sqn_t (by simp only [ev_c, ev_var, ev_nil, ev_cons, ev_tup, ev_lst, ev_op, ev_tst, ev_toB, ev_tru, ev_andT, ev_orT, ev_notT, ev_andV, ev_orV, ev_notV, ev_neg, ev_ifE, ev_no, ev_so, ev_sl, ev_cb, ev_isi, ev_mt, ev_lr1, ev_gc, ev_gct, ev_call, ev_nx, ev_seq, ev_exp, ev_ret, ev_if, ev_set, ev_asg, ev_par, ev_gnm, ev_gsb, ev_gsnil, ev_gscons, ev_gtp, ev_yes, ev_retR_rt, bind_ok, List.getElem?_cons_zero, List.getElem?_cons_succ, List.set_cons_zero, List.set_cons_succ, List.length_cons, List.length_nil, Nat.reduceAdd, Nat.reduceLeDiff, if_true, gc_same, gct_same, v_truB, Sm.v_add, Sm.v_sub, isL_lst, decide_true, decide_false, Bool.not_true, Bool.not_false, Bool.false_eq_true, if_false, ix0]) (by omega) (fun _ => eQ 0) (by
    intro x _
    refine ⟨_, rfl, ?_⟩
    simp only [wipeD, ev_c, ev_var, ev_nil, ev_cons, ev_tup, ev_lst, ev_op, ev_tst, ev_toB, ev_tru, ev_andT, ev_orT, ev_notT, ev_andV, ev_orV, ev_notV, ev_neg, ev_ifE, ev_no, ev_so, ev_sl, ev_cb, ev_isi, ev_mt, ev_lr1, ev_gc, ev_gct, ev_call, ev_nx, ev_seq, ev_exp, ev_ret, ev_if, ev_set, ev_asg, ev_par, ev_gnm, ev_gsb, ev_gsnil, ev_gscons, ev_gtp, ev_yes, ev_retR_rt, bind_ok, List.getElem?_cons_zero, List.getElem?_cons_succ, List.set_cons_zero, List.set_cons_succ, List.length_cons, List.length_nil, Nat.reduceAdd, Nat.reduceLeDiff, if_true, gc_same, gct_same, v_truB, Sm.v_add, Sm.v_sub, isL_lst, decide_true, decide_false, Bool.not_true, Bool.not_false, Bool.false_eq_true, if_false, k5])
  have em8 : (cAt C 0).map (fun _ => eQ 0) = ((cAt C 0).map fun _ => (0 : Rat)).map eQ := by simp
  rw [em8] at y8
  have et8 : gcR (SH b S4 (g3 ++ [HE.lst (((List.range ps.length).map w).map eQ)] ++ [HE.lst (C.map eR)])).length (cTup [.lst (SH b S4 (g3 ++ [HE.lst (((List.range ps.length).map w).map eQ)] ++ [HE.lst (C.map eR)])).length] (SH b S4 (g3 ++ [HE.lst (((List.range ps.length).map w).map eQ)] ++ [HE.lst (C.map eR)]) ++ [.lst (((cAt C 0).map fun _ => (0 : Rat)).map eQ)])) = .ok (eR ((cAt C 0).map fun _ => 0)) (SH b S4 (g3 ++ [HE.lst (((List.range ps.length).map w).map eQ)] ++ [HE.lst (C.map eR)])) := tup_gc H6 (eQs_pu _)
  have a8 : allocD [D.non, D.lst (SH b S4 (g3 ++ [HE.lst (((List.range ps.length).map w).map eQ)])).length, eT C.dropLast, eT ([[]] ++ C.tail), eT (C.dropLast ++ [[1]]), eT ([(cAt C 0).map fun _ => 0] ++ C.tail), eT ([cAt C 0 ++ [1]] ++ C.tail)] (SH b S4 (g3 ++ [HE.lst (((List.range ps.length).map w).map eQ)] ++ [HE.lst (C.map eR)])) = .ok (.lst (SH b S4 (g3 ++ [HE.lst (((List.range ps.length).map w).map eQ)] ++ [HE.lst (C.map eR)])).length) (SH b S4 ((g3 ++ [HE.lst (((List.range ps.length).map w).map eQ)] ++ [HE.lst (C.map eR)]) ++ [.lst [D.non, D.lst (SH b S4 (g3 ++ [HE.lst (((List.range ps.length).map w).map eQ)])).length, eT C.dropLast, eT ([[]] ++ C.tail), eT (C.dropLast ++ [[1]]), eT ([(cAt C 0).map fun _ => 0] ++ C.tail), eT ([cAt C 0 ++ [1]] ++ C.tail)]])) := by rw [v_alloc (by simp), SH_app]
  rw [seq_nx (σ1 := [some (D.lst (b.length + 1)), some t, some (D.int ps.length), some (eR rw'), some kl, some (eT C), some (D.lst (SH b S4 g3).length), z7, z8, some (eT (evn ps)), some (.lst (SH b S4 (g3 ++ [HE.lst (((List.range ps.length).map w).map eQ)] ++ [HE.lst (C.map eR)])).length), none, none, none, none]) (h1 := SH b S4 ((g3 ++ [HE.lst (((List.range ps.length).map w).map eQ)] ++ [HE.lst (C.map eR)]) ++ [.lst [D.non, D.lst (SH b S4 (g3 ++ [HE.lst (((List.range ps.length).map w).map eQ)])).length, eT C.dropLast, eT ([[]] ++ C.tail), eT (C.dropLast ++ [[1]]), eT ([(cAt C 0).map fun _ => 0] ++ C.tail), eT ([cAt C 0 ++ [1]] ++ C.tail)]]))]
  rotate_left
  · simp only [ev_c, ev_var, ev_nil, ev_cons, ev_tup, ev_lst, ev_op, ev_tst, ev_toB, ev_tru, ev_andT, ev_orT, ev_notT, ev_andV, ev_orV, ev_notV, ev_neg, ev_ifE, ev_no, ev_so, ev_sl, ev_cb, ev_isi, ev_mt, ev_lr1, ev_gc, ev_gct, ev_call, ev_nx, ev_seq, ev_exp, ev_ret, ev_if, ev_set, ev_asg, ev_par, ev_gnm, ev_gsb, ev_gsnil, ev_gscons, ev_gtp, ev_yes, ev_retR_rt, bind_ok, List.getElem?_cons_zero, List.getElem?_cons_succ, List.set_cons_zero, List.set_cons_succ, List.length_cons, List.length_nil, Nat.reduceAdd, Nat.reduceLeDiff, if_true, gc_same, gct_same, v_truB, Sm.v_add, Sm.v_sub, isL_lst, decide_true, decide_false, Bool.not_true, Bool.not_false, Bool.false_eq_true, if_false, v1, n7, cut_lastT cne, cut_tailT, k1, h11, k2, q1, q2, y8, gc_np H6 (eQs_pu _), et8, k3, q3, ix0, k4, q4, q5, a8]
  have gB : (SH b S4 ((g3 ++ [HE.lst (((List.range ps.length).map w).map eQ)] ++ [HE.lst (C.map eR)]) ++ [.lst [D.non, D.lst (SH b S4 (g3 ++ [HE.lst (((List.range ps.length).map w).map eQ)])).length, eT C.dropLast, eT ([[]] ++ C.tail), eT (C.dropLast ++ [[1]]), eT ([(cAt C 0).map fun _ => 0] ++ C.tail), eT ([cAt C 0 ++ [1]] ++ C.tail)]]))[(SH b S4 (g3 ++ [HE.lst (((List.range ps.length).map w).map eQ)] ++ [HE.lst (C.map eR)])).length]? = some (.lst [D.non, D.lst (SH b S4 (g3 ++ [HE.lst (((List.range ps.length).map w).map eQ)])).length, eT C.dropLast, eT ([[]] ++ C.tail), eT (C.dropLast ++ [[1]]), eT ([(cAt C 0).map fun _ => 0] ++ C.tail), eT ([cAt C 0 ++ [1]] ++ C.tail)]) := by rw [SH_assoc]; exact get_0
  have bf := bent_false (n := (SH b S4 (g3 ++ [HE.lst (((List.range ps.length).map w).map eQ)])).length) H7 W T H
  have y9 := fLc_mpy (own := [14]) (fe := fVar 10) (tgt := gNm 14) (elt := fGc (fCall 2 m_are_chances (fCons (fVar 1) (fCons (fVar 14) fNil)))) (σ := [some (D.lst (b.length + 1)), some t, some (D.int ps.length), some (eR rw'), some kl, some (eT C), some (D.lst (SH b S4 g3).length), z7, z8, some (eT (evn ps)), some (.lst (SH b S4 (g3 ++ [HE.lst (((List.range ps.length).map w).map eQ)] ++ [HE.lst (C.map eR)])).length), none, none, none, none]) (h := SH b S4 ((g3 ++ [HE.lst (((List.range ps.length).map w).map eQ)] ++ [HE.lst (C.map eR)]) ++ [.lst [D.non, D.lst (SH b S4 (g3 ++ [HE.lst (((List.range ps.length).map w).map eQ)])).length, eT C.dropLast, eT ([[]] ++ C.tail), eT (C.dropLast ++ [[1]]), eT ([(cAt C 0).map fun _ => 0] ++ C.tail), eT ([cAt C 0 ++ [1]] ++ C.tail)]])) (d := .lst (SH b S4 (g3 ++ [HE.lst (((List.range ps.length).map w).map eQ)] ++ [HE.lst (C.map eR)])).length) id [D.non, D.lst (SH b S4 (g3 ++ [HE.lst (((List.range ps.length).map w).map eQ)])).length, eT C.dropLast, eT ([[]] ++ C.tail), eT (C.dropLast ++ [[1]]), eT ([(cAt C 0).map fun _ => 0] ++ C.tail), eT ([cAt C 0 ++ [1]] ++ C.tail)] (by rw [List.map_id]; exact sqn_l gB) (by simp) (by simp) (fun _ => .bl false) (by
    intro x m
    refine ⟨_, rfl, ?_⟩
    simp only [wipeD, ev_c, ev_var, ev_nil, ev_cons, ev_tup, ev_lst, ev_op, ev_tst, ev_toB, ev_tru, ev_andT, ev_orT, ev_notT, ev_andV, ev_orV, ev_notV, ev_neg, ev_ifE, ev_no, ev_so, ev_sl, ev_cb, ev_isi, ev_mt, ev_lr1, ev_gc, ev_gct, ev_call, ev_nx, ev_seq, ev_exp, ev_ret, ev_if, ev_set, ev_asg, ev_par, ev_gnm, ev_gsb, ev_gsnil, ev_gscons, ev_gtp, ev_yes, ev_retR_rt, bind_ok, List.getElem?_cons_zero, List.getElem?_cons_succ, List.set_cons_zero, List.set_cons_succ, List.length_cons, List.length_nil, Nat.reduceAdd, Nat.reduceLeDiff, if_true, gc_same, gct_same, v_truB, Sm.v_add, Sm.v_sub, isL_lst, decide_true, decide_false, Bool.not_true, Bool.not_false, Bool.false_eq_true, if_false, id, bf x m])
  have ef : ([D.non, D.lst (SH b S4 (g3 ++ [HE.lst (((List.range ps.length).map w).map eQ)])).length, eT C.dropLast, eT ([[]] ++ C.tail), eT (C.dropLast ++ [[1]]), eT ([(cAt C 0).map fun _ => 0] ++ C.tail), eT ([cAt C 0 ++ [1]] ++ C.tail)].map fun _ => D.bl false) = [false, false, false, false, false, false, false].map D.bl := rfl
  rw [ef] at y9
  generalize hG6 : (g3 ++ [HE.lst (((List.range ps.length).map w).map eQ)] ++ [HE.lst (C.map eR)]) ++ [HE.lst [D.non, D.lst (SH b S4 (g3 ++ [HE.lst (((List.range ps.length).map w).map eQ)])).length, eT C.dropLast, eT ([[]] ++ C.tail), eT (C.dropLast ++ [[1]]), eT ([(cAt C 0).map fun _ => 0] ++ C.tail), eT ([cAt C 0 ++ [1]] ++ C.tail)]] = g6 at C6 H7 gB bf y9
  have K6 : KS b g6 kl ps := by rw [← hG6]; exact K4.app.app
  have hW6 : (SH b S4 g6)[(SH b S4 g3).length]? = some (.lst (((List.range ps.length).map w).map eQ)) := by
    rw [← hG6, SH_assoc, SH_assoc, List.append_assoc, List.getElem?_append_left (List.getElem?_eq_some_iff.mp hW).1]; exact hW
  have H8 : Clo (SH b S4 g6 ++ [.lst ([false, false, false, false, false, false, false].map D.bl)]) := clo1 H7 rfl
  have er := rep_gc H8 (n := 7) (x := .bl false) (by decide) rfl
  have erl : List.replicate 7 (D.bl false) = [false, false, false, false, false, false, false].map D.bl := rfl
  rw [erl, show ((7 : Nat) : Int) = 7 from rfl] at er
  have ea : allocD [.bl false] (SH b S4 g6 ++ [.lst ([false, false, false, false, false, false, false].map D.bl)]) = .ok (.lst (SH b S4 g6 ++ [HE.lst ([false, false, false, false, false, false, false].map D.bl)]).length) (SH b S4 g6 ++ [.lst ([false, false, false, false, false, false, false].map D.bl)] ++ [.lst [.bl false]]) := v_alloc (by simp)
  have en : dNe (.lst (SH b S4 g6).length) (.lst (SH b S4 g6 ++ [HE.lst ([false, false, false, false, false, false, false].map D.bl)]).length) (SH b S4 g6 ++ [.lst ([false, false, false, false, false, false, false].map D.bl)] ++ [.lst ([false, false, false, false, false, false, false].map D.bl)]) = .ok (.bl false) (SH b S4 g6 ++ [.lst ([false, false, false, false, false, false, false].map D.bl)] ++ [.lst ([false, false, false, false, false, false, false].map D.bl)]) := by
    rw [v_neBL (as := [false, false, false, false, false, false, false]) (bs := [false, false, false, false, false, false, false]) (by simp) (by simp)]
    rfl
  rw [seq_nx (σ1 := [some (D.lst (b.length + 1)), some t, some (D.int ps.length), some (eR rw'), some kl, some (eT C), some (D.lst (SH b S4 g3).length), z7, z8, some (eT (evn ps)), some (.lst (SH b S4 (g3 ++ [HE.lst (((List.range ps.length).map w).map eQ)] ++ [HE.lst (C.map eR)])).length), none, none, none, none]) (h1 := SH b S4 g6)]
  rotate_left
  · rw [if_f (h1 := SH b S4 g6)]
    · rfl
    · simp only [ev_c, ev_var, ev_nil, ev_cons, ev_tup, ev_lst, ev_op, ev_tst, ev_toB, ev_tru, ev_andT, ev_orT, ev_notT, ev_andV, ev_orV, ev_notV, ev_neg, ev_ifE, ev_no, ev_so, ev_sl, ev_cb, ev_isi, ev_mt, ev_lr1, ev_gc, ev_gct, ev_call, ev_nx, ev_seq, ev_exp, ev_ret, ev_if, ev_set, ev_asg, ev_par, ev_gnm, ev_gsb, ev_gsnil, ev_gscons, ev_gtp, ev_yes, ev_retR_rt, bind_ok, List.getElem?_cons_zero, List.getElem?_cons_succ, List.set_cons_zero, List.set_cons_succ, List.length_cons, List.length_nil, Nat.reduceAdd, Nat.reduceLeDiff, if_true, gc_same, gct_same, v_truB, Sm.v_add, Sm.v_sub, isL_lst, decide_true, decide_false, Bool.not_true, Bool.not_false, Bool.false_eq_true, if_false, y9, gc_np H7 (show D.puL ([false, false, false, false, false, false, false].map D.bl) = true from rfl), ea, er, en, gct_drop2 H7]
  -- the ends
  have KL6 := K6.kl S4
  have y10 := fLc_rgf (own := [7]) (fa := fVar 2) (tgt := gNm 7) (tst := fGcT (fTst (fOp dEq (fOp dIx (fVar 4) (fVar 7)) (fLst fNil)))) (elt := fVar 7) (σ := [some (D.lst (b.length + 1)), some t, some (D.int ps.length), some (eR rw'), some kl, some (eT C), some (D.lst (SH b S4 g3).length), z7, z8, some (eT (evn ps)), some (.lst (SH b S4 (g3 ++ [HE.lst (((List.range ps.length).map w).map eQ)] ++ [HE.lst (C.map eR)])).length), none, none, none, none]) (h := SH b S4 g6) (n := ps.length) (by simp) (by omega) (fun k => decide (kd ps k = [])) eI (by
    intro k hk
    obtain ⟨id, a, gk⟩ := KL6.ix hk
    have ea2 : allocD [] (SH b S4 g6) = .ok (.lst (SH b S4 g6).length) (SH b S4 g6 ++ [.lst []]) := v_alloc (by simp)
    have en2 := eq_nil H7 gk
    refine ⟨_, rfl, ?_, fun _ => by simp only [wipeD, ev_c, ev_var, ev_nil, ev_cons, ev_tup, ev_lst, ev_op, ev_tst, ev_toB, ev_tru, ev_andT, ev_orT, ev_notT, ev_andV, ev_orV, ev_notV, ev_neg, ev_ifE, ev_no, ev_so, ev_sl, ev_cb, ev_isi, ev_mt, ev_lr1, ev_gc, ev_gct, ev_call, ev_nx, ev_seq, ev_exp, ev_ret, ev_if, ev_set, ev_asg, ev_par, ev_gnm, ev_gsb, ev_gsnil, ev_gscons, ev_gtp, ev_yes, ev_retR_rt, bind_ok, List.getElem?_cons_zero, List.getElem?_cons_succ, List.set_cons_zero, List.set_cons_succ, List.length_cons, List.length_nil, Nat.reduceAdd, Nat.reduceLeDiff, if_true, gc_same, gct_same, v_truB, Sm.v_add, Sm.v_sub, isL_lst, decide_true, decide_false, Bool.not_true, Bool.not_false, Bool.false_eq_true, if_false]; rfl⟩
    simp only [wipeD, ev_c, ev_var, ev_nil, ev_cons, ev_tup, ev_lst, ev_op, ev_tst, ev_toB, ev_tru, ev_andT, ev_orT, ev_notT, ev_andV, ev_orV, ev_notV, ev_neg, ev_ifE, ev_no, ev_so, ev_sl, ev_cb, ev_isi, ev_mt, ev_lr1, ev_gc, ev_gct, ev_call, ev_nx, ev_seq, ev_exp, ev_ret, ev_if, ev_set, ev_asg, ev_par, ev_gnm, ev_gsb, ev_gsnil, ev_gscons, ev_gtp, ev_yes, ev_retR_rt, bind_ok, List.getElem?_cons_zero, List.getElem?_cons_succ, List.set_cons_zero, List.set_cons_succ, List.length_cons, List.length_nil, Nat.reduceAdd, Nat.reduceLeDiff, if_true, gc_same, gct_same, v_truB, Sm.v_add, Sm.v_sub, isL_lst, decide_true, decide_false, Bool.not_true, Bool.not_false, Bool.false_eq_true, if_false, a, ea2, en2])
  have hends := ends_one W H wt
  have hlt : ∀ k ∈ (List.range ps.length).filter (fun k => decide (kd ps k = [])), k < ps.length := fun k m => List.mem_range.mp (List.mem_filter.mp m).1
  have hll : ((List.range ps.length).filter fun k => decide (kd ps k = [])).length ≤ 40 := Nat.le_trans (List.length_filter_le ..) (by simp; omega)
  have hne : (List.range ps.length).filter (fun k => decide (kd ps k = [])) ≠ [] := fun z => by
    rw [z, sm_nil] at hends
    exact absurd hends (by decide)
  generalize (List.range ps.length).filter (fun k => decide (kd ps k = [])) = ls at y10 hends hlt hll hne
  obtain ⟨l0, lt, rfl⟩ : ∃ l0 lt, ls = l0 :: lt := List.exists_cons_of_ne_nil hne
  have C7 : CloS b (g6 ++ [.lst ((l0 :: lt).map eI)]) := C6.pushP (eIs_pu _)
  have H9 : Clo (SH b S4 (g6 ++ [.lst ((l0 :: lt).map eI)])) := C7 S4
  have n10 : gcR (SH b S4 g6).length (.ok (.lst (SH b S4 g6).length) (SH b S4 g6 ++ [.lst ((l0 :: lt).map eI)])) = .ok (.lst (SH b S4 g6).length) (SH b S4 (g6 ++ [.lst ((l0 :: lt).map eI)])) := by rw [gc_np H7 (eIs_pu _), SH_app]
  rw [seq_nx (σ1 := [some (D.lst (b.length + 1)), some t, some (D.int ps.length), some (eR rw'), some kl, some (eT C), some (D.lst (SH b S4 g3).length), z7, z8, some (eT (evn ps)), some (.lst (SH b S4 (g3 ++ [HE.lst (((List.range ps.length).map w).map eQ)] ++ [HE.lst (C.map eR)])).length), some (.lst (SH b S4 g6).length), none, none, none]) (h1 := SH b S4 (g6 ++ [.lst ((l0 :: lt).map eI)]))]
  rotate_left
  · simp only [ev_c, ev_var, ev_nil, ev_cons, ev_tup, ev_lst, ev_op, ev_tst, ev_toB, ev_tru, ev_andT, ev_orT, ev_notT, ev_andV, ev_orV, ev_notV, ev_neg, ev_ifE, ev_no, ev_so, ev_sl, ev_cb, ev_isi, ev_mt, ev_lr1, ev_gc, ev_gct, ev_call, ev_nx, ev_seq, ev_exp, ev_ret, ev_if, ev_set, ev_asg, ev_par, ev_gnm, ev_gsb, ev_gsnil, ev_gscons, ev_gtp, ev_yes, ev_retR_rt, bind_ok, List.getElem?_cons_zero, List.getElem?_cons_succ, List.set_cons_zero, List.set_cons_succ, List.length_cons, List.length_nil, Nat.reduceAdd, Nat.reduceLeDiff, if_true, gc_same, gct_same, v_truB, Sm.v_add, Sm.v_sub, isL_lst, decide_true, decide_false, Bool.not_true, Bool.not_false, Bool.false_eq_true, if_false, y10, n10]
  have gL : (SH b S4 (g6 ++ [.lst ((l0 :: lt).map eI)]))[(SH b S4 g6).length]? = some (.lst ((l0 :: lt).map eI)) := by rw [SH_assoc]; exact get_0
  have hW7 : (SH b S4 (g6 ++ [.lst ((l0 :: lt).map eI)]))[(SH b S4 g3).length]? = some (.lst (((List.range ps.length).map w).map eQ)) := by
    rw [SH_assoc, List.getElem?_append_left (List.getElem?_eq_some_iff.mp hW6).1]; exact hW6
  have K7 : KS b (g6 ++ [.lst ((l0 :: lt).map eI)]) kl ps := K6.app
  have hj : ∃ j, g6 ++ [HE.lst ((l0 :: lt).map eI)] = g ++ j := ⟨jk ++ [HE.lst (((List.range ps.length).map w).map eQ)] ++ [HE.lst (C.map eR)] ++ [HE.lst [D.non, D.lst (SH b S4 (g3 ++ [HE.lst (((List.range ps.length).map w).map eQ)])).length, eT C.dropLast, eT ([[]] ++ C.tail), eT (C.dropLast ++ [[1]]), eT ([(cAt C 0).map fun _ => 0] ++ C.tail), eT ([cAt C 0 ++ [1]] ++ C.tail)]] ++ [HE.lst ((l0 :: lt).map eI)], by rw [← hG6, ← hg3]; simp⟩
  have y11 := e_share_of (t := t) H9 W T H wt hd hd3 (ks := l0 :: lt) (sqn_l gL) hll hlt
  rw [hends] at y11
  have y12 := cut_one gL
  have H10 : Clo (SH b S4 (g6 ++ [.lst ((l0 :: lt).map eI)]) ++ [.lst ([l0].map eI)]) := clo1 H9 (eIs_pu _)
  have y13 := e_share_of (t := t) (d := .lst (SH b S4 (g6 ++ [.lst ((l0 :: lt).map eI)])).length) H10 W T H wt hd hd3 (ks := [l0]) sqn_new (by simp) (fun k m => by rw [List.mem_singleton] at m; rw [m]; exact hlt l0 (List.mem_cons_self ..))
  have es : sm w [l0] = w l0 := by rw [sm_cons, sm_nil, Rat.add_zero]
  rw [es] at y13
  have i4 : dIx (.lst (SH b S4 g6).length) (.int 0) (SH b S4 (g6 ++ [.lst ((l0 :: lt).map eI)])) = .ok (.int l0) (SH b S4 (g6 ++ [.lst ((l0 :: lt).map eI)])) := v_ix (dI_lst gL) atI_0
  have i5 : dIx (.lst (SH b S4 g3).length) (.int l0) (SH b S4 (g6 ++ [.lst ((l0 :: lt).map eI)])) = .ok (eQ (w l0)) (SH b S4 (g6 ++ [.lst ((l0 :: lt).map eI)])) := v_ixM (e := eQ) (xs := (List.range ps.length).map w) (sqn_l hW7) (by simp [hlt l0 (List.mem_cons_self ..)])
  generalize g6 ++ [HE.lst ((l0 :: lt).map eI)] = g7 at *
  rw [seq_nx (σ1 := [some (D.lst (b.length + 1)), some t, some (D.int ps.length), some (eR rw'), some kl, some (eT C), some (D.lst (SH b S4 g3).length), z7, z8, some (eT (evn ps)), some (.lst (SH b S4 (g3 ++ [HE.lst (((List.range ps.length).map w).map eQ)] ++ [HE.lst (C.map eR)])).length), some (.lst (SH b S4 g6).length), none, none, none]) (h1 := SH b S4 g7)]
  rotate_left
  · rw [if_f (h1 := SH b S4 g7)]
    · rfl
    · refine or_f (h1 := SH b S4 g7) ?_ ?_
      · simp only [ev_c, ev_var, ev_nil, ev_cons, ev_tup, ev_lst, ev_op, ev_tst, ev_toB, ev_tru, ev_andT, ev_orT, ev_notT, ev_andV, ev_orV, ev_notV, ev_neg, ev_ifE, ev_no, ev_so, ev_sl, ev_cb, ev_isi, ev_mt, ev_lr1, ev_gc, ev_gct, ev_call, ev_nx, ev_seq, ev_exp, ev_ret, ev_if, ev_set, ev_asg, ev_par, ev_gnm, ev_gsb, ev_gsnil, ev_gscons, ev_gtp, ev_yes, ev_retR_rt, bind_ok, List.getElem?_cons_zero, List.getElem?_cons_succ, List.set_cons_zero, List.set_cons_succ, List.length_cons, List.length_nil, Nat.reduceAdd, Nat.reduceLeDiff, if_true, gc_same, gct_same, v_truB, Sm.v_add, Sm.v_sub, isL_lst, decide_true, decide_false, Bool.not_true, Bool.not_false, Bool.false_eq_true, if_false, y11, h11, ne_eQ]
      · simp only [ev_c, ev_var, ev_nil, ev_cons, ev_tup, ev_lst, ev_op, ev_tst, ev_toB, ev_tru, ev_andT, ev_orT, ev_notT, ev_andV, ev_orV, ev_notV, ev_neg, ev_ifE, ev_no, ev_so, ev_sl, ev_cb, ev_isi, ev_mt, ev_lr1, ev_gc, ev_gct, ev_call, ev_nx, ev_seq, ev_exp, ev_ret, ev_if, ev_set, ev_asg, ev_par, ev_gnm, ev_gsb, ev_gsnil, ev_gscons, ev_gtp, ev_yes, ev_retR_rt, bind_ok, List.getElem?_cons_zero, List.getElem?_cons_succ, List.set_cons_zero, List.set_cons_succ, List.length_cons, List.length_nil, Nat.reduceAdd, Nat.reduceLeDiff, if_true, gc_same, gct_same, v_truB, Sm.v_add, Sm.v_sub, isL_lst, decide_true, decide_false, Bool.not_true, Bool.not_false, Bool.false_eq_true, if_false, y12, y13, gc_dp H9 (eQ_pu _), i4, i5, ne_eQ]
  obtain ⟨_, S5, x14, g5, i6, rfl, i60, i61⟩ := e_Ltake (b := b) (g := g7) g4 (m := 6) (by decide) (by decide)
  have hp4 := e_Lpart (a := 1 + i6) (b := 6) (by decide) (by
    refine Nat.lt_of_lt_of_le (show (6 : Int).natAbs < 2 ^ 3 by decide) ?_
    exact Nat.pow_le_pow_right (by decide) (by decide)) (SH b S5 g7)
  have zs : Sz 3 (Q (1 + i6) 6) := sz_divInt (by decide) (by
    have : (2 : Nat) ^ 3 = 8 := by decide
    omega) (by decide)
  have s0 : 0 < Q (1 + i6) 6 := by
    rw [Q, Rat.divInt_eq_div]
    have : (1 : Rat) ≤ ((1 + i6 : Int) : Rat) := by
      have : 1 ≤ 1 + i6 := by omega
      exact_mod_cast this
    rw [Rat.lt_div_iff (by decide)]
    grind
  have s1 : Q (1 + i6) 6 ≤ 1 := by
    rw [Q, Rat.divInt_eq_div]
    have : ((1 + i6 : Int) : Rat) ≤ 6 := by
      have : 1 + i6 ≤ 6 := by omega
      exact_mod_cast this
    refine Rat.not_lt.mp fun z => ?_
    rw [Rat.lt_div_iff (by decide)] at z
    grind
  rw [seq_nx (σ1 := [some (D.lst (b.length + 1)), some t, some (D.int ps.length), some (eR rw'), some kl, some (eT C), some (D.lst (SH b S4 g3).length), z7, z8, some (eT (evn ps)), some (.lst (SH b S4 (g3 ++ [HE.lst (((List.range ps.length).map w).map eQ)] ++ [HE.lst (C.map eR)])).length), some (.lst (SH b S4 g6).length), some (eQ (Q (1 + i6) 6)), none, none]) (h1 := SH b S5 g7)]
  rotate_left
  · simp only [ev_c, ev_var, ev_nil, ev_cons, ev_tup, ev_lst, ev_op, ev_tst, ev_toB, ev_tru, ev_andT, ev_orT, ev_notT, ev_andV, ev_orV, ev_notV, ev_neg, ev_ifE, ev_no, ev_so, ev_sl, ev_cb, ev_isi, ev_mt, ev_lr1, ev_gc, ev_gct, ev_call, ev_nx, ev_seq, ev_exp, ev_ret, ev_if, ev_set, ev_asg, ev_par, ev_gnm, ev_gsb, ev_gsnil, ev_gscons, ev_gtp, ev_yes, ev_retR_rt, bind_ok, List.getElem?_cons_zero, List.getElem?_cons_succ, List.set_cons_zero, List.set_cons_succ, List.length_cons, List.length_nil, Nat.reduceAdd, Nat.reduceLeDiff, if_true, gc_same, gct_same, v_truB, Sm.v_add, Sm.v_sub, isL_lst, decide_true, decide_false, Bool.not_true, Bool.not_false, Bool.false_eq_true, if_false, x14, gcS, hp4]
  have y15 := e_Lcosts_told (t := t) (kl := kl) (C7 S5) W T H wt hd hd3 (zs.mono (show 3 ≤ 7 by decide)) s0 s1 lr zr (K7.kl S5)
  obtain ⟨_, S6, y16, g6', rfl⟩ := e_Ltilted (t := t) (kl := kl) (C := C) g5 C7 W H K7
  obtain ⟨j, hj⟩ := hj
  refine ⟨S6, j, ?_, g6'⟩
  rw [← hj]
  simp only [ev_c, ev_var, ev_nil, ev_cons, ev_tup, ev_lst, ev_op, ev_tst, ev_toB, ev_tru, ev_andT, ev_orT, ev_notT, ev_andV, ev_orV, ev_notV, ev_neg, ev_ifE, ev_no, ev_so, ev_sl, ev_cb, ev_isi, ev_mt, ev_lr1, ev_gc, ev_gct, ev_call, ev_nx, ev_seq, ev_exp, ev_ret, ev_if, ev_set, ev_asg, ev_par, ev_gnm, ev_gsb, ev_gsnil, ev_gscons, ev_gtp, ev_yes, ev_retR_rt, bind_ok, List.getElem?_cons_zero, List.getElem?_cons_succ, List.set_cons_zero, List.set_cons_succ, List.length_cons, List.length_nil, Nat.reduceAdd, Nat.reduceLeDiff, if_true, gc_same, gct_same, v_truB, Sm.v_add, Sm.v_sub, isL_lst, decide_true, decide_false, Bool.not_true, Bool.not_false, Bool.false_eq_true, if_false, y15, y16, gcS]
end
theorem law_true (ns : List Int) (l : ns.length ≤ 63) : ∃ h', m_law [.fls (ns.map .int)] [] = .ok (.bl true) h' := by
  obtain ⟨b, S, e1, gS, cb⟩ := e_Lstate l
  have C0 : CloS b [] := cloS_nil cb
  have e1' : gcR 0 (m_Lstate [.fls (ns.map .int)] []) = .ok (.lst (b.length + 1)) (SH b S []) := by
    rw [e1]
    unfold gcR
    have h1 : ¬ (SH b S []).length = 0 := by simp
    have h2 : clH 0 ((SH b S []).take 0) = true := rfl
    have h3 : (D.lst (b.length + 1)).cl 0 = false := by simp [D.cl]
    have h4 : D.clL 0 [.int S.2, .lst b.length] = false := by simp [D.clL, D.cl]
    simp only [if_neg h1, h2, if_true, h3, Bool.false_eq_true, if_false, SH_1, h4, and_false]
  obtain ⟨σ', h', x, S', z2, gS', rfl, rfl⟩ := fFor_rgI (fa := fC (.int 3)) (tgt := gNm 2) (body := (fIf (fOrT (fNotT (fTru (fGc (fCall 1 m_Lshares (fCons (fVar 1) fNil))))) (fNotT (fTru (fGc (fCall 1 m_Ltrees (fCons (fVar 1) fNil)))))) (fRet (fC (.bl false))) fNx)) (σ := [some (.fls (ns.map .int)), some (.lst (b.length + 1)), none]) (h := SH b S []) (n := 3) (by simp) (by omega)
    (fun j σ h => ∃ S z2, Gd S ∧ σ = [some (.fls (ns.map .int)), some (.lst (b.length + 1)), z2] ∧ h = SH b S []) ⟨S, none, gS, rfl, rfl⟩ (by
      rintro j σ _ hj ⟨S, z2, gS, rfl, rfl⟩
      obtain ⟨_, S1, x1, g1, rfl⟩ := e_Lshares (b := b) (g := []) gS C0
      obtain ⟨_, S2, x2, g2, rfl⟩ := e_Ltrees (b := b) (g := []) g1 C0
      refine ⟨_, _, _, SH b S2 [], rfl, ?_, S2, some (.int j), g2, rfl, rfl⟩
      simp only [ev_c, ev_var, ev_nil, ev_cons, ev_tup, ev_lst, ev_op, ev_tst, ev_toB, ev_tru, ev_andT, ev_orT, ev_notT, ev_andV, ev_orV, ev_notV, ev_neg, ev_ifE, ev_no, ev_so, ev_sl, ev_cb, ev_isi, ev_mt, ev_lr1, ev_gc, ev_gct, ev_call, ev_nx, ev_seq, ev_exp, ev_ret, ev_if, ev_set, ev_asg, ev_par, ev_gnm, ev_gsb, ev_gsnil, ev_gscons, ev_gtp, ev_yes, ev_retR_rt, bind_ok, List.getElem?_cons_zero, List.getElem?_cons_succ, List.set_cons_zero, List.set_cons_succ, List.length_cons, List.length_nil, Nat.reduceAdd, Nat.reduceLeDiff, if_true, gc_same, gct_same, v_truB, Sm.v_add, Sm.v_sub, isL_lst, decide_true, decide_false, Bool.not_true, Bool.not_false, Bool.false_eq_true, if_false, x1, gcS, x2])
  refine ⟨(SH b S' []).take 0, ?_⟩
  · unfold m_law mOf b_law
    have hst : startD 3 [.fls (ns.map .int)] = [some (.fls (ns.map .int)), none, none] := rfl
    rw [hst]
    simp only [ev_c, ev_var, ev_nil, ev_cons, ev_tup, ev_lst, ev_op, ev_tst, ev_toB, ev_tru, ev_andT, ev_orT, ev_notT, ev_andV, ev_orV, ev_notV, ev_neg, ev_ifE, ev_no, ev_so, ev_sl, ev_cb, ev_isi, ev_mt, ev_lr1, ev_gc, ev_gct, ev_call, ev_nx, ev_seq, ev_exp, ev_ret, ev_if, ev_set, ev_asg, ev_par, ev_gnm, ev_gsb, ev_gsnil, ev_gscons, ev_gtp, ev_yes, ev_retR_rt, bind_ok, List.getElem?_cons_zero, List.getElem?_cons_succ, List.set_cons_zero, List.set_cons_succ, List.length_cons, List.length_nil, Nat.reduceAdd, Nat.reduceLeDiff, if_true, gc_same, gct_same, v_truB, Sm.v_add, Sm.v_sub, isL_lst, decide_true, decide_false, Bool.not_true, Bool.not_false, Bool.false_eq_true, if_false, e1', x]
    unfold gcR
    have h2 : clH 0 ((SH b S' []).take 0) = true := rfl
    have h1 : ¬ (SH b S' []).length = 0 := by simp
    have h3 : (D.bl true).cl 0 = true := rfl
    simp only [if_neg h1, h2, if_true, h3]
end Lw

namespace Hd
open PySem PySem.Spec PyProof.Rows L2 Sm Sq Lw
def mkD (x : Str) (i : Nat) : He.DefD := ⟨(x, none), x, x, defArgs (top i), defBody (top i), defScope (top i), [], []⟩
def fn0 : List He.DefD := [mkD "divisor" 1, mkD "part" 2, mkD "is_part" 3, mkD "are_parts" 4, mkD "plus" 5, mkD "minus" 6, mkD "times" 7, mkD "over" 8, mkD "negative" 9, mkD "is_less" 10, mkD "least" 11, mkD "total" 12, mkD "dot" 13, mkD "ahead" 15, mkD "is_last" 16, mkD "are_chances" 19, mkD "even" 20, mkD "chance" 21, mkD "mean" 22, mkD "worst" 23, mkD "sorted_places" 24, mkD "worst_weights" 25, mkD "accepts_weights" 26, mkD "worst_costs" 27]
def fn1 : List He.DefD := [mkD "worst_cost" 28, mkD "greatest_cost" 29, mkD "greatest_from" 30, mkD "tilted" 31, mkD "share_of" 32, mkD "_law_state" 34, mkD "_law_take" 35, mkD "_law_pick" 36, mkD "_law_part" 37, mkD "_law_add" 38, mkD "_law_mul" 39, mkD "_law_neg" 40, mkD "_law_over" 41, mkD "_law_less" 42, mkD "_law_total" 43, mkD "_law_dot" 44, mkD "_law_most" 45, mkD "_law_least" 46, mkD "_law_fraction" 47, mkD "_law_kids" 48, mkD "_law_road" 49, mkD "_law_shape" 50, mkD "_law_tree" 51, mkD "_law_row" 52]
def fn2 : List He.DefD := [mkD "_law_chances" 53, mkD "_law_places" 54, mkD "_law_weights" 55, mkD "_law_shares" 56, mkD "_law_trees" 57, mkD "_law_costs_told" 58, mkD "_law_tilted" 59, mkD "law" 60]
def fn : List He.DefD := fn0 ++ fn1 ++ fn2
def fa0 : List He.Fa := [.glo "divisor", .glo "part", .glo "is_part", .glo "are_parts", .glo "plus", .glo "minus", .glo "times", .glo "over", .glo "negative", .glo "is_less", .glo "least", .glo "total", .glo "dot", .glo "ahead", .glo "is_last", .glo "are_chances", .glo "even", .glo "chance", .glo "mean", .glo "worst", .glo "sorted_places", .glo "worst_weights", .glo "accepts_weights", .glo "worst_costs"]
def fa1 : List He.Fa := [.glo "worst_cost", .glo "greatest_cost", .glo "greatest_from", .glo "tilted", .glo "share_of", .glo "_law_state", .glo "_law_take", .glo "_law_pick", .glo "_law_part", .glo "_law_add", .glo "_law_mul", .glo "_law_neg", .glo "_law_over", .glo "_law_less", .glo "_law_total", .glo "_law_dot", .glo "_law_most", .glo "_law_least", .glo "_law_fraction", .glo "_law_kids", .glo "_law_road", .glo "_law_shape", .glo "_law_tree", .glo "_law_row"]
def fa2 : List He.Fa := [.glo "_law_chances", .glo "_law_places", .glo "_law_weights", .glo "_law_shares", .glo "_law_trees", .glo "_law_costs_told", .glo "_law_tilted", .glo "law", .free "abs", .free "all", .free "any", .free "bool", .free "int", .free "isinstance", .free "len", .free "list", .free "range", .free "sum", .free "tuple", .glo "ONE"]
def fa : List He.Fa := fa0 ++ fa1 ++ fa2
def v_ONE : List He.Dv := [(.int 1), (.int 1)]
def exK (K : PySem.W.Frag) : Bool := He.tupB K "ONE" v_ONE && true
def loose0 : List PySem.Str := ["divisor", "part", "is_part", "are_parts", "plus", "minus", "times", "over", "negative", "is_less", "least", "total", "dot", "ahead", "is_last", "are_chances", "even", "chance", "mean", "worst", "sorted_places", "worst_weights", "accepts_weights", "worst_costs"]
def loose1 : List PySem.Str := ["worst_cost", "greatest_cost", "greatest_from", "tilted", "share_of", "_law_state", "_law_take", "_law_pick", "_law_part", "_law_add", "_law_mul", "_law_neg", "_law_over", "_law_less", "_law_total", "_law_dot", "_law_most", "_law_least", "_law_fraction", "_law_kids", "_law_road", "_law_shape", "_law_tree", "_law_row"]
def loose2 : List PySem.Str := ["_law_chances", "_law_places", "_law_weights", "_law_shares", "_law_trees", "_law_costs_told", "_law_tilted", "ONE"]
def loose : List PySem.Str := loose0 ++ loose1 ++ loose2
abbrev R : PySem.W.OpenRow := PySem.W.OpenLaw.row PySem.Challenge.rw_promisewright_k47_whole_chances_and_wors
abbrev hk : PySem.W.Hook := hookC 4 fa fn exK
def ob (s : PySem.W.SharedT) : He.AlD × Bool := obsC 4 fa fn exK (HandSHeadRun.getT s)
theorem ob_eq (s : PySem.W.SharedT) : ob s = hk.obs s.abs := obsC_eq (HandSHeadRun.getT_eq s)
theorem run (w : World) : HandSHeadRun.RunEq R (PySem.W.view R.prog [60]) hk ob 20000 loose w := by
  intro os
  kernel_rfl
theorem facts {P : Program} {w : World} {K : PySem.W.Frag} {h base : Heap} {mg : Str → Option Value} (X : K.In h) (G : h.Ns mainGlobals mg) (c : He.SaysD fa fn K) (ex : exK K = true) : HasL P w K mg base "law" ["script"] 32 m_law := by
  have B : Bi mg := ⟨He.free_ok X G (c.fact 56 rfl), He.free_ok X G (c.fact 57 rfl), He.free_ok X G (c.fact 58 rfl), He.free_ok X G (c.fact 59 rfl), He.free_ok X G (c.fact 60 rfl), He.free_ok X G (c.fact 61 rfl), He.free_ok X G (c.fact 62 rfl), He.free_ok X G (c.fact 63 rfl), He.free_ok X G (c.fact 64 rfl), He.free_ok X G (c.fact 65 rfl), He.free_ok X G (c.fact 66 rfl)⟩
  have e_ONE : He.tupB K "ONE" v_ONE = true := by have z := ex; unfold exK at z; simp only [Bool.and_eq_true] at z; simp only [z]
  have k_ONE : Cst K mg "ONE" c_ONE := cst_tup X G (c.fact 67 rfl) e_ONE rfl
  have l_divisor : Lk K mg "divisor" (top 1) ["one", "other"] := lk_of X G (c.fact 0 rfl) (c.def_ 0 (d := mkD "divisor" 1) rfl) fun _ _ _ _ _ _ us hl => match us, hl with | [_, _], _ => rfl
  have l_part : Lk K mg "part" (top 2) ["above", "below"] := lk_of X G (c.fact 1 rfl) (c.def_ 1 (d := mkD "part" 2) rfl) fun _ _ _ _ _ _ us hl => match us, hl with | [_, _], _ => rfl
  have l_is_part : Lk K mg "is_part" (top 3) ["value"] := lk_of X G (c.fact 2 rfl) (c.def_ 2 (d := mkD "is_part" 3) rfl) fun _ _ _ _ _ _ us hl => match us, hl with | [_], _ => rfl
  have l_are_parts : Lk K mg "are_parts" (top 4) ["value", "many"] := lk_of X G (c.fact 3 rfl) (c.def_ 3 (d := mkD "are_parts" 4) rfl) fun _ _ _ _ _ _ us hl => match us, hl with | [_, _], _ => rfl
  have l_plus : Lk K mg "plus" (top 5) ["one", "other"] := lk_of X G (c.fact 4 rfl) (c.def_ 4 (d := mkD "plus" 5) rfl) fun _ _ _ _ _ _ us hl => match us, hl with | [_, _], _ => rfl
  have l_minus : Lk K mg "minus" (top 6) ["one", "other"] := lk_of X G (c.fact 5 rfl) (c.def_ 5 (d := mkD "minus" 6) rfl) fun _ _ _ _ _ _ us hl => match us, hl with | [_, _], _ => rfl
  have l_times : Lk K mg "times" (top 7) ["one", "other"] := lk_of X G (c.fact 6 rfl) (c.def_ 6 (d := mkD "times" 7) rfl) fun _ _ _ _ _ _ us hl => match us, hl with | [_, _], _ => rfl
  have l_over : Lk K mg "over" (top 8) ["one", "other"] := lk_of X G (c.fact 7 rfl) (c.def_ 7 (d := mkD "over" 8) rfl) fun _ _ _ _ _ _ us hl => match us, hl with | [_, _], _ => rfl
  have l_negative : Lk K mg "negative" (top 9) ["one"] := lk_of X G (c.fact 8 rfl) (c.def_ 8 (d := mkD "negative" 9) rfl) fun _ _ _ _ _ _ us hl => match us, hl with | [_], _ => rfl
  have l_is_less : Lk K mg "is_less" (top 10) ["one", "other"] := lk_of X G (c.fact 9 rfl) (c.def_ 9 (d := mkD "is_less" 10) rfl) fun _ _ _ _ _ _ us hl => match us, hl with | [_, _], _ => rfl
  have l_least : Lk K mg "least" (top 11) ["row"] := lk_of X G (c.fact 10 rfl) (c.def_ 10 (d := mkD "least" 11) rfl) fun _ _ _ _ _ _ us hl => match us, hl with | [_], _ => rfl
  have l_total : Lk K mg "total" (top 12) ["row"] := lk_of X G (c.fact 11 rfl) (c.def_ 11 (d := mkD "total" 12) rfl) fun _ _ _ _ _ _ us hl => match us, hl with | [_], _ => rfl
  have l_dot : Lk K mg "dot" (top 13) ["one", "other"] := lk_of X G (c.fact 12 rfl) (c.def_ 12 (d := mkD "dot" 13) rfl) fun _ _ _ _ _ _ us hl => match us, hl with | [_, _], _ => rfl
  have l_ahead : Lk K mg "ahead" (top 15) ["tree", "node"] := lk_of X G (c.fact 13 rfl) (c.def_ 13 (d := mkD "ahead" 15) rfl) fun _ _ _ _ _ _ us hl => match us, hl with | [_, _], _ => rfl
  have l_is_last : Lk K mg "is_last" (top 16) ["tree", "node"] := lk_of X G (c.fact 14 rfl) (c.def_ 14 (d := mkD "is_last" 16) rfl) fun _ _ _ _ _ _ us hl => match us, hl with | [_, _], _ => rfl
  have l_are_chances : Lk K mg "are_chances" (top 19) ["tree", "value"] := lk_of X G (c.fact 15 rfl) (c.def_ 15 (d := mkD "are_chances" 19) rfl) fun _ _ _ _ _ _ us hl => match us, hl with | [_, _], _ => rfl
  have l_even : Lk K mg "even" (top 20) ["tree"] := lk_of X G (c.fact 16 rfl) (c.def_ 16 (d := mkD "even" 20) rfl) fun _ _ _ _ _ _ us hl => match us, hl with | [_], _ => rfl
  have l_chance : Lk K mg "chance" (top 21) ["tree", "chances", "node"] := lk_of X G (c.fact 17 rfl) (c.def_ 17 (d := mkD "chance" 21) rfl) fun _ _ _ _ _ _ us hl => match us, hl with | [_, _, _], _ => rfl
  have l_mean : Lk K mg "mean" (top 22) ["tree", "chances", "row"] := lk_of X G (c.fact 18 rfl) (c.def_ 18 (d := mkD "mean" 22) rfl) fun _ _ _ _ _ _ us hl => match us, hl with | [_, _, _], _ => rfl
  have l_worst : Lk K mg "worst" (top 23) ["values", "chances", "share"] := lk_of X G (c.fact 19 rfl) (c.def_ 19 (d := mkD "worst" 23) rfl) fun _ _ _ _ _ _ us hl => match us, hl with | [_, _, _], _ => rfl
  have l_sorted_places : Lk K mg "sorted_places" (top 24) ["values"] := lk_of X G (c.fact 20 rfl) (c.def_ 20 (d := mkD "sorted_places" 24) rfl) fun _ _ _ _ _ _ us hl => match us, hl with | [_], _ => rfl
  have l_worst_weights : Lk K mg "worst_weights" (top 25) ["values", "chances", "share"] := lk_of X G (c.fact 21 rfl) (c.def_ 21 (d := mkD "worst_weights" 25) rfl) fun _ _ _ _ _ _ us hl => match us, hl with | [_, _, _], _ => rfl
  have l_accepts_weights : Lk K mg "accepts_weights" (top 26) ["values", "chances", "share", "told", "value"] := lk_of X G (c.fact 22 rfl) (c.def_ 22 (d := mkD "accepts_weights" 26) rfl) fun _ _ _ _ _ _ us hl => match us, hl with | [_, _, _, _, _], _ => rfl
  have l_worst_costs : Lk K mg "worst_costs" (top 27) ["tree", "chances", "share", "row"] := lk_of X G (c.fact 23 rfl) (c.def_ 23 (d := mkD "worst_costs" 27) rfl) fun _ _ _ _ _ _ us hl => match us, hl with | [_, _, _, _], _ => rfl
  have l_worst_cost : Lk K mg "worst_cost" (top 28) ["tree", "chances", "share", "row"] := lk_of X G (c.fact 24 rfl) (c.def_ 24 (d := mkD "worst_cost" 28) rfl) fun _ _ _ _ _ _ us hl => match us, hl with | [_, _, _, _], _ => rfl
  have l_greatest_cost : Lk K mg "greatest_cost" (top 29) ["tree", "row"] := lk_of X G (c.fact 25 rfl) (c.def_ 25 (d := mkD "greatest_cost" 29) rfl) fun _ _ _ _ _ _ us hl => match us, hl with | [_, _], _ => rfl
  have l_greatest_from : Lk K mg "greatest_from" (top 30) ["tree", "row", "node"] := lk_of X G (c.fact 26 rfl) (c.def_ 26 (d := mkD "greatest_from" 30) rfl) fun _ _ _ _ _ _ us hl => match us, hl with | [_, _, _], _ => rfl
  have l_tilted : Lk K mg "tilted" (top 31) ["tree", "chances", "weights"] := lk_of X G (c.fact 27 rfl) (c.def_ 27 (d := mkD "tilted" 31) rfl) fun _ _ _ _ _ _ us hl => match us, hl with | [_, _, _], _ => rfl
  have l_share_of : Lk K mg "share_of" (top 32) ["tree", "chances", "nodes"] := lk_of X G (c.fact 28 rfl) (c.def_ 28 (d := mkD "share_of" 32) rfl) fun _ _ _ _ _ _ us hl => match us, hl with | [_, _, _], _ => rfl
  have l_Lstate : Lk K mg "_law_state" (top 34) ["script"] := lk_of X G (c.fact 29 rfl) (c.def_ 29 (d := mkD "_law_state" 34) rfl) fun _ _ _ _ _ _ us hl => match us, hl with | [_], _ => rfl
  have l_Ltake : Lk K mg "_law_take" (top 35) ["state", "most"] := lk_of X G (c.fact 30 rfl) (c.def_ 30 (d := mkD "_law_take" 35) rfl) fun _ _ _ _ _ _ us hl => match us, hl with | [_, _], _ => rfl
  have l_Lpick : Lk K mg "_law_pick" (top 36) ["state", "row"] := lk_of X G (c.fact 31 rfl) (c.def_ 31 (d := mkD "_law_pick" 36) rfl) fun _ _ _ _ _ _ us hl => match us, hl with | [_, _], _ => rfl
  have l_Lpart : Lk K mg "_law_part" (top 37) ["upper", "lower"] := lk_of X G (c.fact 32 rfl) (c.def_ 32 (d := mkD "_law_part" 37) rfl) fun _ _ _ _ _ _ us hl => match us, hl with | [_, _], _ => rfl
  have l_Ladd : Lk K mg "_law_add" (top 38) ["one", "other"] := lk_of X G (c.fact 33 rfl) (c.def_ 33 (d := mkD "_law_add" 38) rfl) fun _ _ _ _ _ _ us hl => match us, hl with | [_, _], _ => rfl
  have l_Lmul : Lk K mg "_law_mul" (top 39) ["one", "other"] := lk_of X G (c.fact 34 rfl) (c.def_ 34 (d := mkD "_law_mul" 39) rfl) fun _ _ _ _ _ _ us hl => match us, hl with | [_, _], _ => rfl
  have l_Lneg : Lk K mg "_law_neg" (top 40) ["one"] := lk_of X G (c.fact 35 rfl) (c.def_ 35 (d := mkD "_law_neg" 40) rfl) fun _ _ _ _ _ _ us hl => match us, hl with | [_], _ => rfl
  have l_Lover : Lk K mg "_law_over" (top 41) ["one", "other"] := lk_of X G (c.fact 36 rfl) (c.def_ 36 (d := mkD "_law_over" 41) rfl) fun _ _ _ _ _ _ us hl => match us, hl with | [_, _], _ => rfl
  have l_Lless : Lk K mg "_law_less" (top 42) ["one", "other"] := lk_of X G (c.fact 37 rfl) (c.def_ 37 (d := mkD "_law_less" 42) rfl) fun _ _ _ _ _ _ us hl => match us, hl with | [_, _], _ => rfl
  have l_Ltotal : Lk K mg "_law_total" (top 43) ["rows"] := lk_of X G (c.fact 38 rfl) (c.def_ 38 (d := mkD "_law_total" 43) rfl) fun _ _ _ _ _ _ us hl => match us, hl with | [_], _ => rfl
  have l_Ldot : Lk K mg "_law_dot" (top 44) ["one", "other"] := lk_of X G (c.fact 39 rfl) (c.def_ 39 (d := mkD "_law_dot" 44) rfl) fun _ _ _ _ _ _ us hl => match us, hl with | [_, _], _ => rfl
  have l_Lmost : Lk K mg "_law_most" (top 45) ["rows"] := lk_of X G (c.fact 40 rfl) (c.def_ 40 (d := mkD "_law_most" 45) rfl) fun _ _ _ _ _ _ us hl => match us, hl with | [_], _ => rfl
  have l_Lleast : Lk K mg "_law_least" (top 46) ["rows"] := lk_of X G (c.fact 41 rfl) (c.def_ 41 (d := mkD "_law_least" 46) rfl) fun _ _ _ _ _ _ us hl => match us, hl with | [_], _ => rfl
  have l_Lfraction : Lk K mg "_law_fraction" (top 47) ["state", "most"] := lk_of X G (c.fact 42 rfl) (c.def_ 42 (d := mkD "_law_fraction" 47) rfl) fun _ _ _ _ _ _ us hl => match us, hl with | [_, _], _ => rfl
  have l_Lkids : Lk K mg "_law_kids" (top 48) ["tree", "node"] := lk_of X G (c.fact 43 rfl) (c.def_ 43 (d := mkD "_law_kids" 48) rfl) fun _ _ _ _ _ _ us hl => match us, hl with | [_, _], _ => rfl
  have l_Lroad : Lk K mg "_law_road" (top 49) ["tree", "node"] := lk_of X G (c.fact 44 rfl) (c.def_ 44 (d := mkD "_law_road" 49) rfl) fun _ _ _ _ _ _ us hl => match us, hl with | [_, _], _ => rfl
  have l_Lshape : Lk K mg "_law_shape" (top 50) ["state", "moments", "wide"] := lk_of X G (c.fact 45 rfl) (c.def_ 45 (d := mkD "_law_shape" 50) rfl) fun _ _ _ _ _ _ us hl => match us, hl with | [_, _, _], _ => rfl
  have l_Ltree : Lk K mg "_law_tree" (top 51) ["state", "moments", "wide"] := lk_of X G (c.fact 46 rfl) (c.def_ 46 (d := mkD "_law_tree" 51) rfl) fun _ _ _ _ _ _ us hl => match us, hl with | [_, _, _], _ => rfl
  have l_Lrow : Lk K mg "_law_row" (top 52) ["state", "tree"] := lk_of X G (c.fact 47 rfl) (c.def_ 47 (d := mkD "_law_row" 52) rfl) fun _ _ _ _ _ _ us hl => match us, hl with | [_, _], _ => rfl
  have l_Lchances : Lk K mg "_law_chances" (top 53) ["state", "many"] := lk_of X G (c.fact 48 rfl) (c.def_ 48 (d := mkD "_law_chances" 53) rfl) fun _ _ _ _ _ _ us hl => match us, hl with | [_, _], _ => rfl
  have l_Lplaces : Lk K mg "_law_places" (top 54) ["values"] := lk_of X G (c.fact 49 rfl) (c.def_ 49 (d := mkD "_law_places" 54) rfl) fun _ _ _ _ _ _ us hl => match us, hl with | [_], _ => rfl
  have l_Lweights : Lk K mg "_law_weights" (top 55) ["values", "chances_told", "share"] := lk_of X G (c.fact 50 rfl) (c.def_ 50 (d := mkD "_law_weights" 55) rfl) fun _ _ _ _ _ _ us hl => match us, hl with | [_, _, _], _ => rfl
  have l_Lshares : Lk K mg "_law_shares" (top 56) ["state"] := lk_of X G (c.fact 51 rfl) (c.def_ 51 (d := mkD "_law_shares" 56) rfl) fun _ _ _ _ _ _ us hl => match us, hl with | [_], _ => rfl
  have l_Ltrees : Lk K mg "_law_trees" (top 57) ["state"] := lk_of X G (c.fact 52 rfl) (c.def_ 52 (d := mkD "_law_trees" 57) rfl) fun _ _ _ _ _ _ us hl => match us, hl with | [_], _ => rfl
  have l_Lcosts_told : Lk K mg "_law_costs_told" (top 58) ["tree", "told", "share", "row", "kids"] := lk_of X G (c.fact 53 rfl) (c.def_ 53 (d := mkD "_law_costs_told" 58) rfl) fun _ _ _ _ _ _ us hl => match us, hl with | [_, _, _, _, _], _ => rfl
  have l_Ltilted : Lk K mg "_law_tilted" (top 59) ["state", "tree", "told", "kids"] := lk_of X G (c.fact 54 rfl) (c.def_ 54 (d := mkD "_law_tilted" 59) rfl) fun _ _ _ _ _ _ us hl => match us, hl with | [_, _, _, _], _ => rfl
  have l_law : Lk K mg "law" (top 60) ["script"] := lk_of X G (c.fact 55 rfl) (c.def_ 55 (d := mkD "law" 60) rfl) fun _ _ _ _ _ _ us hl => match us, hl with | [_], _ => rfl
  exact has_all B k_ONE l_divisor l_part l_is_part l_are_parts l_plus l_minus l_times l_over l_negative l_is_less l_least l_total l_dot l_ahead l_is_last l_are_chances l_even l_chance l_mean l_worst l_sorted_places l_worst_weights l_accepts_weights l_worst_costs l_worst_cost l_greatest_cost l_greatest_from l_tilted l_share_of l_Lstate l_Ltake l_Lpick l_Lpart l_Ladd l_Lmul l_Lneg l_Lover l_Lless l_Ltotal l_Ldot l_Lmost l_Lleast l_Lfraction l_Lkids l_Lroad l_Lshape l_Ltree l_Lrow l_Lchances l_Lplaces l_Lweights l_Lshares l_Ltrees l_Lcosts_told l_Ltilted l_law
end Hd
open PySem PySem.W PySem.Calls PyProof.Rows
theorem Hd.holds (law_true : ∀ ns : List Int, ns.length ≤ 63 → ∃ h', Lw.m_law [.fls (ns.map Sm.D.int)] [] = .ok (.bl true) h') : PySem.Challenge.rw_promisewright_k47_whole_chances_and_wors.Holds := by
  w_on; o_law
  refine HandSHeadRun.head_any (r := OpenLaw.row PySem.Challenge.rw_promisewright_k47_whole_chances_and_wors) (q := view (OpenLaw.row PySem.Challenge.rw_promisewright_k47_whole_chances_and_wors).prog [60]) (H := Hd.hk) (ob := Hd.ob) (M := 20000) (loose := Hd.loose) (d := HandSHeadRun.topDef (OpenLaw.row PySem.Challenge.rw_promisewright_k47_whole_chances_and_wors).prog 60) (kwd := []) Hd.ob_eq
    (by kernel_rfl) (fun s => by kernel_rfl) Hd.run (by kernel_rfl) (by kernel_rfl) (by kernel_rfl) (by rfl) (by first | assumption | decide +kernel) (by decide +kernel) ⟨rfl, rfl, rfl, rfl, rfl, by decide +kernel⟩ ?hw ?hc
  case hw => w_witness2
  case hc =>
    refine L2.walk_ofE (l := PySem.Challenge.rw_promisewright_k47_whole_chances_and_wors) (n := 63) (k := 32) (x := "script") (CX := Lw.CXL) rfl (by decide) (by kernel_rfl) ⟨rfl, by decide, by decide⟩ ?F (fun _ _ _ _ z => z)
    intro w mg fa h Y G hmg0
    obtain ⟨K, KX, c, ex⟩ := Y
    have hmg : mg ("law" : PySem.Str) = some (.ref fa) := by
      have e : (HandSHeadRun.topDef (OpenLaw.row PySem.Challenge.rw_promisewright_k47_whole_chances_and_wors).prog 60).name = ("law" : PySem.Str) := by kernel_rfl
      rw [← e]
      exact hmg0
    obtain ⟨fa', fd, g, kp, b, at_, _⟩ := Hd.facts (P := (PySem.Challenge.rw_promisewright_k47_whole_chances_and_wors).prog) (w := w) (base := h) KX G c ex
    rw [hmg] at g
    cases g
    refine ⟨K, fd, Sm.spD K 1 Lw.m_law, KX, fun s u => b s [u] rfl, fun H a ns hl hO hS => Sm.sp_law (law_true ns hl) hO hS, fun base KB hG => ?_⟩
    obtain ⟨fa2, fd2, g2, _, _, at2, F2⟩ := Hd.facts (P := (PySem.Challenge.rw_promisewright_k47_whole_chances_and_wors).prog) (w := w) (base := base) KX G c ex
    rw [hmg] at g2
    cases g2
    rw [at_.uniq at2]
    exact F2


theorem PySem.Challenge.cw_promisewright_k47_whole_chances_and_wors_holds : PySem.Challenge.rw_promisewright_k47_whole_chances_and_wors.Holds := by
  exact Hd.holds Lw.law_true
