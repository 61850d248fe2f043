import PyProof.Rows.All
import Wide.All
import OpenK.AllK
import Wide.FinOn
import HandS.Ends
import HandS.ForMost
import HandS.ForExc
import HandS.CallSlots
import HandS.Wide
import HandS.TupAny
import HandS.Deep
import HandS.Zip
import HandS.Style
import HandS.Defaults
import PyProof.Rows.IntBool
import HandS.TupMul
import PyProof.Rows.RuleB_bool
import HandS.TupLe
import HandS.IsInst
import HandS.RaiseMore
import HandS.Comp
import HandS.Lambda
import HandS.ExcCtx
import HandS.Flow
import HandS.HotCalls
import HandS.ExcIs
import KE.KStateDown
import HandS.Words
import HandS.Head0
import HandS.Head1
import HandS.Head2
import HandS.HeadEnd
import HandS.HeadHook1
import HandS.HeadHook2
import HandS.HeadHook3
import HandS.HeadHook4
import HandS.HeadWalk
import HandS.TupSets
import HandS.Strs
import HandS.Set
import HandS.SetFor
import PySem.Challenge.RW_anystream_k02_whole_boats_at_told_flows
set_option Elab.async false
set_option linter.all false
set_option maxRecDepth 100000
set_option maxHeartbeats 4000000
/-! Data of a run, seen without the heap: what a value stands for (Rep), the slots of a def (Ok). -/
namespace DV
open PySem PySem.Spec PyProof.Rows L2

abbrev D := PyData
inductive Out (t : Type) where
  | ok (a : t) | err (c : Str) | bad
/-- the sem of an object: its number -/
abbrev obj (n : Nat) : D := .dict [(.int n, .none)]
/-- the script: a list that is read alone -/
abbrev scr (ds : List D) : D := .dict [(.none, .list ds)]

/-- the fixed things beside the heap: the written part, the addresses that must not be told of as data, the objects -/
structure Wd where
  K : PySem.W.Frag
  Z : Addr → Prop
  O : List Addr

/-- a list that is read alone -/
def SqF (K : PySem.W.Frag) (H : Hp) (a : Addr) (xs : List V) : Prop := (∃ o, H a = some (.frz o (.lst xs))) ∨
  ∃ (o : Obj) (its : Array Value) (n : Nat), K.lookup a = some o ∧ o.cls = .type "list" ∧ o.dict = none ∧ o.data = .seq its n ∧ its.size ≤ sizeLine ∧ Vals xs its.toList
theorem SqF.l {K : PySem.W.Frag} {H : Hp} {a : Addr} {xs : List V} (h : SqF K H a xs) : SqL K H a xs := h.imp (fun ⟨o, h⟩ => .inr ⟨o, h⟩) id
mutual
inductive Rep (W : Wd) (H : Hp) : V → D → Prop
  | non : Rep W H .non .none
  | bl (b : Bool) : Rep W H (.bl b) (.bool b)
  | int (i : Int) : Rep W H (.int i) (.int i)
  | str (x : Str) : Rep W H (.str x) (.str x)
  | lst {a : Addr} {xs : List V} {ds : List D} (hz : ¬ W.Z a) (h : H a = some (.lst xs)) (r : Reps W H xs ds) : Rep W H (.ref a) (.list ds)
  | tup {a : Addr} {xs : List V} {ds : List D} (h : SqT W.K H a xs) (r : Reps W H xs ds) : Rep W H (.ref a) (.tuple ds)
  | obj {a : Addr} {n : Nat} (h : W.O[n]? = some a) : Rep W H (.ref a) (obj n)
  | scr {a : Addr} {xs : List V} {ds : List D} (h : SqF W.K H a xs) (r : Reps W H xs ds) : Rep W H (.ref a) (scr ds)
  | scrL {a : Addr} {xs : List V} {ds : List D} (hz : ¬ W.Z a) (h : H a = some (.lst xs)) (r : Reps W H xs ds) : Rep W H (.ref a) (scr ds)
inductive Reps (W : Wd) (H : Hp) : List V → List D → Prop
  | nil : Reps W H [] []
  | cons {v : V} {vs : List V} {d : D} {ds : List D} (h : Rep W H v d) (t : Reps W H vs ds) : Reps W H (v :: vs) (d :: ds)
end

/-- an object that holds data -/
def isDat : HO → Prop
  | .lst _ => True
  | .tup _ => True
  | .frz _ _ => True
  | _ => False
def isTbl : HO → Prop
  | .tbl _ => True
  | _ => False
/-- data that may be told of stays -/
def Keep (Z : Addr → Prop) (H H' : Hp) : Prop := ∀ b o, H b = some o → isDat o → ¬ Z b → H' b = some o
/-- what must not be told of is a list -/
def ZL (Z : Addr → Prop) (H : Hp) : Prop := ∀ b, Z b → ∃ xs, H b = some (.lst xs)

theorem Keep.refl (Z : Addr → Prop) (H : Hp) : Keep Z H H := fun _ _ h _ _ => h
theorem Keep.trans {Z : Addr → Prop} {H H1 H2 : Hp} (a : Keep Z H H1) (b : Keep Z H1 H2) : Keep Z H H2 := fun c o h d n => b c o (a c o h d n) d n

section
variable {W W' : Wd} {H H' : Hp}
theorem SqT.keep {K : PySem.W.Frag} {a : Addr} {xs : List V} {Z : Addr → Prop} (hz : ZL Z H) (k : Keep Z H H') (h : SqT K H a xs) : SqT K H' a xs := by
  rcases h with (h | ⟨o, h⟩) | h
  · refine .inl (.inl (k a _ h trivial fun z => ?_))
    obtain ⟨xs', e⟩ := hz a z
    rw [h] at e; cases e
  · refine .inl (.inr ⟨o, k a _ h trivial fun z => ?_⟩)
    obtain ⟨xs', e⟩ := hz a z
    rw [h] at e; cases e
  · exact .inr h
theorem SqF.keep {K : PySem.W.Frag} {a : Addr} {xs : List V} {Z : Addr → Prop} (hz : ZL Z H) (k : Keep Z H H') (h : SqF K H a xs) : SqF K H' a xs := by
  rcases h with ⟨o, h⟩ | h
  · refine .inl ⟨o, k a _ h trivial fun z => ?_⟩
    obtain ⟨xs', e⟩ := hz a z
    rw [h] at e; cases e
  · exact .inr h
mutual
theorem Rep.keep (hK : W'.K = W.K) (hZ : ∀ a, W'.Z a → W.Z a ∨ ∀ o, H a = some o → ¬ isDat o) (hO : ∀ (n : Nat) a, W.O[n]? = some a → W'.O[n]? = some a) (hz : ZL W.Z H) (k : Keep W.Z H H') : ∀ {v : V} {d : D}, Rep W H v d → Rep W' H' v d
  | _, _, .non => .non
  | _, _, .bl b => .bl b
  | _, _, .int i => .int i
  | _, _, .str x => .str x
  | _, _, .lst (a := a) n h r => .lst (fun z => (hZ a z).elim n fun e => e _ h trivial) (k a _ h trivial n) (Reps.keep hK hZ hO hz k r)
  | _, _, .tup (a := a) h r => .tup (by rw [hK]; exact SqT.keep hz k h) (Reps.keep hK hZ hO hz k r)
  | _, _, .obj h => .obj (hO _ _ h)
  | _, _, .scr (a := a) h r => .scr (by rw [hK]; exact SqF.keep hz k h) (Reps.keep hK hZ hO hz k r)
  | _, _, .scrL (a := a) n h r => .scrL (fun z => (hZ a z).elim n fun e => e _ h trivial) (k a _ h trivial n) (Reps.keep hK hZ hO hz k r)
theorem Reps.keep (hK : W'.K = W.K) (hZ : ∀ a, W'.Z a → W.Z a ∨ ∀ o, H a = some o → ¬ isDat o) (hO : ∀ (n : Nat) a, W.O[n]? = some a → W'.O[n]? = some a) (hz : ZL W.Z H) (k : Keep W.Z H H') : ∀ {v : List V} {d : List D}, Reps W H v d → Reps W' H' v d
  | _, _, .nil => .nil
  | _, _, .cons h t => .cons (Rep.keep hK hZ hO hz k h) (Reps.keep hK hZ hO hz k t)
end
theorem Reps.length : ∀ {vs : List V} {ds : List D}, Reps W H vs ds → vs.length = ds.length
  | _, _, .nil => rfl
  | _, _, .cons _ t => by simp [Reps.length t]
theorem Reps.append : ∀ {vs ws : List V} {ds es : List D}, Reps W H vs ds → Reps W H ws es → Reps W H (vs ++ ws) (ds ++ es)
  | _, _, _, _, .nil, s => s
  | _, _, _, _, .cons h t, s => .cons h (Reps.append t s)
theorem Reps.get : ∀ {vs : List V} {ds : List D} {i : Nat} {d : D}, Reps W H vs ds → ds[i]? = some d → ∃ v, vs[i]? = some v ∧ Rep W H v d
  | _, _, _, _, .nil, e => by simp at e
  | _, _, 0, _, .cons h _, e => by simp at e; subst e; exact ⟨_, rfl, h⟩
  | _, _, i + 1, d, .cons _ t, e => by
    obtain ⟨v, h1, h2⟩ := Reps.get (i := i) (d := d) t (by simpa using e)
    exact ⟨v, by simpa using h1, h2⟩
theorem Reps.getV : ∀ {vs : List V} {ds : List D} {i : Nat} {v : V}, Reps W H vs ds → vs[i]? = some v → ∃ d, ds[i]? = some d ∧ Rep W H v d
  | _, _, _, _, .nil, e => by simp at e
  | _, _, 0, _, .cons h _, e => by simp at e; subst e; exact ⟨_, rfl, h⟩
  | _, _, i + 1, d, .cons _ t, e => by
    obtain ⟨v, h1, h2⟩ := Reps.getV (i := i) (v := d) t (by simpa using e)
    exact ⟨v, by simpa using h1, h2⟩
theorem Reps.drop : ∀ {vs : List V} {ds : List D} (n : Nat), Reps W H vs ds → Reps W H (vs.drop n) (ds.drop n)
  | _, _, 0, r => r
  | _, _, _ + 1, .nil => .nil
  | _, _, n + 1, .cons _ t => Reps.drop n t
theorem Reps.take : ∀ {vs : List V} {ds : List D} (n : Nat), Reps W H vs ds → Reps W H (vs.take n) (ds.take n)
  | _, _, 0, _ => .nil
  | _, _, _ + 1, .nil => .nil
  | _, _, n + 1, .cons h t => .cons h (Reps.take n t)
theorem Reps.set : ∀ {vs : List V} {ds : List D} (n : Nat) {v : V} {d : D}, Reps W H vs ds → Rep W H v d → Reps W H (vs.set n v) (ds.set n d)
  | _, _, _, _, _, .nil, _ => .nil
  | _, _, 0, _, _, .cons _ t, r => .cons r t
  | _, _, n + 1, _, _, .cons h t, r => .cons h (Reps.set n t r)
theorem Reps.reverse : ∀ {vs : List V} {ds : List D}, Reps W H vs ds → Reps W H vs.reverse ds.reverse
  | _, _, .nil => .nil
  | _, _, .cons h t => by
    rw [List.reverse_cons, List.reverse_cons]
    exact (Reps.reverse t).append (.cons h .nil)
theorem Reps.eraseIdx : ∀ {vs : List V} {ds : List D} (n : Nat), Reps W H vs ds → Reps W H (vs.eraseIdx n) (ds.eraseIdx n)
  | _, _, _, .nil => .nil
  | _, _, 0, .cons _ t => t
  | _, _, n + 1, .cons h t => .cons h (Reps.eraseIdx n t)
theorem Reps.replicate {vs : List V} {ds : List D} (r : Reps W H vs ds) : ∀ n : Nat, Reps W H (List.replicate n vs).flatten (List.replicate n ds).flatten
  | 0 => .nil
  | n + 1 => by
    rw [List.replicate_succ, List.replicate_succ, List.flatten_cons, List.flatten_cons]
    exact r.append (Reps.replicate r n)

/-! ### to the library's own data -/
mutual
theorem Rep.dp : ∀ {v : V} {d : D}, Rep W H v d → PyData.canLay0 d = true → Dp W.K H v d
  | _, _, .non, _ => .non
  | _, _, .bl b, _ => .bl b
  | _, _, .int i, _ => .int i
  | _, _, .str x, _ => .str x
  | _, _, .lst _ h r, s => .lst (.inl (.inl h)) (Reps.dp r (by simpa only [PyData.canLay0] using s))
  | _, _, .tup h r, s => .tup h (Reps.dp r (by simpa only [PyData.canLay0] using s))
  | _, _, .obj _, s => absurd s (by simp [PyData.canLay0])
  | _, _, .scr _ _, s => absurd s (by simp [PyData.canLay0])
  | _, _, .scrL _ _ _, s => absurd s (by simp [PyData.canLay0])
theorem Reps.dp : ∀ {v : List V} {d : List D}, Reps W H v d → PyData.canLayAll0 d = true → DpAll W.K H v d
  | _, _, .nil, _ => .nil
  | _, _, .cons h t, s => by
    rw [PyData.canLayAll0, Bool.and_eq_true] at s
    exact .cons (Rep.dp h s.1) (Reps.dp t s.2)
end
end
end DV
set_option Elab.async false
set_option linter.all false
set_option maxRecDepth 100000
set_option maxHeartbeats 4000000
/-! The operators over data. -/
namespace DV
open PySem PySem.Spec PyProof.Rows L2

/-! ### what the operators answer -/
def addD : D → D → Out D
  | .int i, .int j => .ok (.int (i + j))
  | .str x, .str y => if x.length + y.length ≤ 16777216 then .ok (.str (x ++ y)) else .bad
  | .list xs, .list ys => if xs.length + ys.length ≤ 16777216 then .ok (.list (xs ++ ys)) else .bad
  | .tuple xs, .tuple ys => if xs.length + ys.length ≤ 16777216 then .ok (.tuple (xs ++ ys)) else .bad
  | .bool a, .int j => .ok (.int ((if a = true then (1 : Int) else 0) + j))
  | _, _ => .bad
def subD : D → D → Out D
  | .int i, .int j => .ok (.int (i - j))
  | .bool a, .bool b => .ok (.int ((if a then 1 else 0) - (if b then 1 else 0)))
  | .bool a, .int j => .ok (.int ((if a = true then (1 : Int) else 0) - j))
  | _, _ => .bad
def mulD : D → D → Out D
  | .int i, .int j => if i.natAbs.log2 + j.natAbs.log2 < 1000000 then .ok (.int (i * j)) else .bad
  | .list xs, .int k => if k < 9223372036854775808 ∧ -9223372036854775808 ≤ k ∧ xs.length * k.toNat ≤ 16777216 then .ok (.list (List.replicate k.toNat xs).flatten) else .bad
  | .tuple xs, .int k => if xs ≠ [] ∧ 2 ≤ k ∧ k ≤ 1000 ∧ xs.length ≤ 1000 then .ok (.tuple (List.replicate k.toNat xs).flatten) else .bad
  | _, _ => .bad
def divD : D → D → Out D
  | .int i, .int j => if j ≠ 0 ∧ j.natAbs.log2 < 9000 then .ok (.int (i.fdiv j)) else .bad
  | _, _ => .bad
def modD : D → D → Out D
  | .int i, .int j => if j ≠ 0 then .ok (.int (i.fmod j)) else .bad
  | _, _ => .bad
def powD : D → D → Out D
  | .int i, .int j => if 0 ≤ j ∧ j ≤ 1000000 ∧ i.natAbs < 18446744073709551616 then .ok (.int (i ^ j.toNat)) else .bad
  | _, _ => .bad
def eqD (d e : D) : Out D := if SeqAt.shaped d = true ∧ SeqAt.shaped e = true then .ok (.bool (PyData.eqv d e)) else .bad
def neD (d e : D) : Out D := if SeqAt.shaped d = true ∧ SeqAt.shaped e = true then .ok (.bool (!PyData.eqv d e)) else .bad
def cmpI (p : Int → Int → Bool) : D → D → Out D
  | .int i, .int j => .ok (.bool (p i j))
  | _, _ => .bad
def flatD : D → Bool
  | .list _ => false
  | .tuple _ => false
  | .dict _ => false
  | _ => true
def inD : D → D → Out D
  | d, .list ds => if SeqAt.shaped d = true ∧ SeqAt.shaped (.list ds) = true then .ok (.bool (ds.any fun z => PyData.eqv z d)) else .bad
  | _, _ => .bad

/-! ### rules -/
/-- a two-place operation over data -/
def rD2 (K : PySem.W.Frag) (f : D → D → Out D) : R2 := fun x y H Q => ∃ (W : Wd) (d e r : D), W.K = K ∧ ZL W.Z H ∧ Rep W H x d ∧ Rep W H y e ∧ f d e = .ok r ∧ ∀ v H', Same H H' → Rep W H' v r → Q v H'

section
variable {W : Wd} {H H' : Hp}
theorem ZL.not {Z : Addr → Prop} {p : Addr} (hz : ZL Z H) (hp : H p = none) : ¬ Z p := fun z => by
  obtain ⟨xs, e⟩ := hz p z
  rw [hp] at e; cases e
theorem same_upd {p : Addr} {o : HO} (hp : H p = none) : Same H (upd H p o) := fun b u h => by rw [upd_ne (ne_of_none h hp)]; exact h
theorem Keep.of_same {Z : Addr → Prop} (s : Same H H') : Keep Z H H' := fun b o h _ _ => s b o h
theorem ZL.same {Z : Addr → Prop} (hz : ZL Z H) (s : Same H H') : ZL Z H' := fun b z => let ⟨xs, e⟩ := hz b z; ⟨xs, s _ _ e⟩
theorem Rep.same (hz : ZL W.Z H) (s : Same H H') {v : V} {d : D} (r : Rep W H v d) : Rep W H' v d := r.keep rfl (fun _ z => .inl z) (fun _ _ h => h) hz (.of_same s)
theorem Reps.same (hz : ZL W.Z H) (s : Same H H') {v : List V} {d : List D} (r : Reps W H v d) : Reps W H' v d := r.keep rfl (fun _ z => .inl z) (fun _ _ h => h) hz (.of_same s)
theorem rep_lst (hz : ZL W.Z H) {p : Addr} (hp : H p = none) {vs : List V} {ds : List D} (r : Reps W H vs ds) : Rep W (upd H p (.lst vs)) (.ref p) (.list ds) :=
  .lst (hz.not hp) upd_same (r.same hz (same_upd hp))
theorem rep_tup (hz : ZL W.Z H) {p : Addr} (hp : H p = none) {vs : List V} {ds : List D} (r : Reps W H vs ds) : Rep W (upd H p (.tup vs)) (.ref p) (.tuple ds) :=
  .tup (.inl (.inl upd_same)) (r.same hz (same_upd hp))
end

theorem sz : sizeLine = 16777216 := sizeLine_eq
section
variable {X : Cx}
theorem or_add : OpR X (binaryOp .Add) (rD2 X.K addD) := by
  intro pins s σ H x y v u Q I rx ry h
  obtain ⟨W, d, e, r, hK, hz, h1, h2, hf, q⟩ := h
  unfold addD at hf
  split at hf
  · cases hf; cases h1; cases h2
    exact op_add pins s σ H _ _ v u Q I rx ry ⟨_, _, rfl, rfl, q _ H (Same.refl H) (.int _)⟩
  · cases h1; cases h2
    split at hf
    · rename_i hs; cases hf
      exact op_add_str pins s σ H _ _ v u Q I rx ry ⟨_, _, rfl, rfl, by rw [sz]; exact hs, q _ H (Same.refl H) (.str _)⟩
    · cases hf
  · split at hf
    · rename_i hs; cases hf
      cases h1 with
      | lst n1 a1 r1 =>
        cases h2 with
        | lst n2 a2 r2 =>
          exact op_cat pins s σ H _ _ v u Q I rx ry ⟨_, _, _, _, rfl, rfl, a1, a2, by rw [sz, r1.length, r2.length]; exact hs, fun p hp => q _ _ (same_upd hp) (rep_lst hz hp (r1.append r2))⟩
    · cases hf
  · split at hf
    · rename_i hs; cases hf
      cases h1 with
      | tup a1 r1 =>
        cases h2 with
        | tup a2 r2 =>
          rw [hK] at a1 a2
          refine op_catA pins s σ H _ _ v u Q I rx ry ⟨_, _, _, _, rfl, rfl, a1, a2, by rw [sz, r1.length, r2.length]; exact hs, fun e => ?_, fun _ e => ?_, fun _ _ p hp => q _ _ (same_upd hp) (rep_tup hz hp (r1.append r2))⟩
          · subst e
            cases r1
            exact q _ _ (Same.refl H) (.tup (by rw [hK]; exact a2) r2)
          · subst e
            cases r2
            rw [List.append_nil] at q
            exact q _ _ (Same.refl H) (.tup (by rw [hK]; exact a1) r1)
    · cases hf
  · rename_i a j
    cases hf; cases h1; cases h2; cases rx
    obtain ⟨t, rfl⟩ := ry
    exact PySem.IntBool.add_bool_int ⟨.int ((if a = true then (1 : Int) else 0) + j), H, I.tok _, ⟨_, rfl⟩, q _ H (Same.refl H) (.int _)⟩
  · cases hf
theorem or_sub : OpR X (binaryOp .Sub) (rD2 X.K subD) := by
  intro pins s σ H x y v u Q I rx ry h
  obtain ⟨W, d, e, r, hK, hz, h1, h2, hf, q⟩ := h
  unfold subD at hf
  split at hf
  · cases hf; cases h1; cases h2
    exact op_sub pins s σ H _ _ v u Q I rx ry ⟨_, _, rfl, rfl, q _ H (Same.refl H) (.int _)⟩
  · rename_i a b
    cases hf; cases h1; cases h2; cases rx; cases ry
    refine PyProof.Rows.sub_bool ⟨.int (b2i a - b2i b), H, I.tok _, ⟨_, rfl⟩, q _ H (Same.refl H) ?_⟩
    have e : (b2i a - b2i b) = ((if a then 1 else 0) - (if b then 1 else 0)) := by cases a <;> cases b <;> rfl
    rw [e]; exact .int _
  · rename_i a j
    cases hf; cases h1; cases h2; cases rx
    obtain ⟨t, rfl⟩ := ry
    exact PySem.IntBool.sub_bool_int ⟨.int ((if a = true then (1 : Int) else 0) - j), H, I.tok _, ⟨_, rfl⟩, q _ H (Same.refl H) (.int _)⟩
  · cases hf
theorem or_mul : OpR X (binaryOp .Mult) (rD2 X.K mulD) := by
  intro pins s σ H x y v u Q I rx ry h
  obtain ⟨W, d, e, r, hK, hz, h1, h2, hf, q⟩ := h
  unfold mulD at hf
  split at hf
  · split at hf
    · rename_i hs; cases hf; cases h1; cases h2
      exact op_mulW pins s σ H _ _ v u Q I rx ry ⟨_, _, rfl, rfl, hs, q _ H (Same.refl H) (.int _)⟩
    · cases hf
  · split at hf
    · rename_i hs; cases hf
      cases h2
      cases h1 with
      | lst n1 a1 r1 =>
        exact op_rep pins s σ H _ _ v u Q I rx ry ⟨_, _, _, rfl, rfl, a1, by omega, by omega, by rw [sz, r1.length]; exact hs.2.2, fun p hp => q _ _ (same_upd hp) (rep_lst hz hp (r1.replicate _))⟩
    · cases hf
  · split at hf
    · rename_i hs; cases hf
      cases h2
      cases h1 with
      | tup a1 r1 =>
        rw [hK] at a1
        refine op_repT pins s σ H _ _ v u Q I rx ry ⟨_, _, _, rfl, rfl, a1, fun e => ?_, hs.2.1, hs.2.2.1, by rw [r1.length]; exact hs.2.2.2, fun p hp => q _ _ (same_upd hp) (rep_tup hz hp (r1.replicate _))⟩
        subst e; cases r1; exact hs.1 rfl
    · cases hf
  · cases hf
end
end DV
set_option Elab.async false
set_option linter.all false
set_option maxRecDepth 100000
set_option maxHeartbeats 4000000
namespace DV
open PySem PySem.Spec PyProof.Rows L2

section
variable {X : Cx}
theorem or_div : OpR X (binaryOp .FloorDiv) (rD2 X.K divD) := by
  intro pins s σ H x y v u Q I rx ry h
  obtain ⟨W, d, e, r, hK, hz, h1, h2, hf, q⟩ := h
  unfold divD at hf
  split at hf
  · split at hf
    · rename_i i j hs; cases hf; cases h1; cases h2
      obtain ⟨t, rfl⟩ := rx
      obtain ⟨t', rfl⟩ := ry
      exact floordiv_int hs.1 ⟨.int (i.fdiv j), H, I.tok _, ⟨_, rfl⟩, q _ H (Same.refl H) (.int _)⟩ (.inl (PyProof.noPylong_of_log2 hs.2))
    · cases hf
  · cases hf
theorem or_mod : OpR X (binaryOp .Mod) (rD2 X.K modD) := by
  intro pins s σ H x y v u Q I rx ry h
  obtain ⟨W, d, e, r, hK, hz, h1, h2, hf, q⟩ := h
  unfold modD at hf
  split at hf
  · split at hf
    · rename_i i j hs; cases hf; cases h1; cases h2
      exact op_modN pins s σ H _ _ v u Q I rx ry ⟨_, _, rfl, rfl, hs, q _ H (Same.refl H) (.int _)⟩
    · cases hf
  · cases hf
theorem or_pow : OpR X (binaryOp .Pow) (rD2 X.K powD) := by
  intro pins s σ H x y v u Q I rx ry h
  obtain ⟨W, d, e, r, hK, hz, h1, h2, hf, q⟩ := h
  unfold powD at hf
  split at hf
  · split at hf
    · rename_i i j hs; cases hf; cases h1; cases h2
      exact op_pow pins s σ H _ _ v u Q I rx ry ⟨_, _, rfl, rfl, ⟨hs.1, hs.2.1, by have := hs.2.2; omega⟩, q _ H (Same.refl H) (.int _)⟩
    · cases hf
  · cases hf
theorem or_eq (hu : X.A.units + 64 < cLine) : OpR X (compareOp .Eq) (rD2 X.K eqD) := by
  intro pins s σ H x y v u Q I rx ry h
  obtain ⟨W, d, e, r, hK, hz, h1, h2, hf, q⟩ := h
  unfold eqD at hf
  split at hf
  · rename_i hs; cases hf
    have d1 := h1.dp (SeqAt.canLay_of_shaped hs.1)
    have d2 := h2.dp (SeqAt.canLay_of_shaped hs.2)
    rw [hK] at d1 d2
    exact op_eqD hu pins s σ H x y v u Q I rx ry ⟨d, e, d1, d2, hs.1, hs.2, q _ H (Same.refl H) (.bl _)⟩
  · cases hf
theorem or_ne (hu : X.A.units + 64 < cLine) : OpR X (compareOp .NotEq) (rD2 X.K neD) := by
  intro pins s σ H x y v u Q I rx ry h
  obtain ⟨W, d, e, r, hK, hz, h1, h2, hf, q⟩ := h
  unfold neD at hf
  split at hf
  · rename_i hs; cases hf
    have d1 := h1.dp (SeqAt.canLay_of_shaped hs.1)
    have d2 := h2.dp (SeqAt.canLay_of_shaped hs.2)
    rw [hK] at d1 d2
    exact op_neD hu pins s σ H x y v u Q I rx ry ⟨d, e, d1, d2, hs.1, hs.2, q _ H (Same.refl H) (.bl _)⟩
  · cases hf
theorem or_cmpI {op : CmpOp} {p : Int → Int → Bool} (ho : OpR X (compareOp op) (rI0 fun i j => .bl (p i j))) : OpR X (compareOp op) (rD2 X.K (cmpI p)) := by
  intro pins s σ H x y v u Q I rx ry h
  obtain ⟨W, d, e, r, hK, hz, h1, h2, hf, q⟩ := h
  unfold cmpI at hf
  split at hf
  · cases hf; cases h1; cases h2
    exact ho pins s σ H _ _ v u Q I rx ry ⟨_, _, rfl, rfl, q _ H (Same.refl H) (.bl _)⟩
  · cases hf
/-- x in a text of signs, a list or a tuple of things that stand for themselves -/
def isIn (b : Bool) (d e : D) : Out D := match e with
  | .list ds => if SeqAt.shaped d = true ∧ SeqAt.shaped (.list ds) = true then .ok (.bool (b != ds.any fun z => PyData.eqv z d)) else .bad
  | .tuple ds => if SeqAt.shaped d = true ∧ SeqAt.shaped (.list ds) = true ∧ flatD d = true ∧ ds.all flatD = true then .ok (.bool (b != ds.any fun z => PyData.eqv z d)) else .bad
  | .str y => (match d with
    | .str x => .ok (.bool (b != !(Builtin.Str.occurrences y x 0 y.length 1).isEmpty))
    | _ => .bad)
  | _ => .bad
theorem flat_rep {W : Wd} {H : Hp} {v : V} {d : D} (r : Rep W H v d) (f : flatD d = true) : flatV v = true := by
  cases r <;> first | rfl | (simp [flatD] at f)
theorem flat_eq {W : Wd} {H : Hp} {v w : V} {d e : D} (r : Rep W H v d) (t : Rep W H w e) (f : flatD d = true) (g : flatD e = true) : L2.eqV v w = PyData.eqv d e := by
  cases r <;> first
    | (cases t <;> first | rfl | (simp [flatD] at g))
    | (simp [flatD] at f)
theorem flat_any {W : Wd} {H : Hp} {w : V} {e : D} (t : Rep W H w e) (g : flatD e = true) : ∀ {vs : List V} {ds : List D}, Reps W H vs ds → ds.all flatD = true → vs.all flatV = true ∧ (vs.any fun y => L2.eqV y w) = ds.any fun z => PyData.eqv z e
  | _, _, .nil, _ => ⟨rfl, rfl⟩
  | _, _, .cons h r, f => by
    rw [List.all_cons, Bool.and_eq_true] at f
    obtain ⟨a, b⟩ := flat_any t g r f.2
    rw [List.all_cons, List.any_cons, List.any_cons, b, flat_rep h f.1, flat_eq h t f.1 g, a]
    exact ⟨rfl, rfl⟩
theorem beq_dec : ∀ a c : Bool, (a == c) = decide (a = c) := by decide
theorem bne_f (b : Bool) : (false != b) = b := by cases b <;> rfl
theorem bne_t (b : Bool) : (true != b) = !b := by cases b <;> rfl
theorem or_in (hu : X.A.units + 65 < cLine) : OpR X (compareOp .In) (rD2 X.K (isIn false)) := by
  intro pins s σ H x y v u Q I rx ry h
  obtain ⟨W, d, e, r, hK, hz, h1, h2, hf, q⟩ := h
  unfold isIn at hf
  split at hf
  · split at hf
    · rename_i hs; cases hf
      have d1 := h1.dp (SeqAt.canLay_of_shaped hs.1)
      have d2 := h2.dp (SeqAt.canLay_of_shaped hs.2)
      rw [hK] at d1 d2
      rw [bne_f] at q
      exact op_inD hu pins s σ H x y v u Q I rx ry ⟨_, _, d1, d2, hs.1, hs.2, q _ H (Same.refl H) (.bl _)⟩
    · cases hf
  · split at hf
    · rename_i hs; cases hf
      cases h2 with
      | tup a2 r2 =>
        rw [hK] at a2
        obtain ⟨e1, e2⟩ := flat_any h1 hs.2.2.1 r2 hs.2.2.2
        rw [bne_f, ← e2] at q
        exact op_in_seq pins s σ H x _ v u Q I rx ry ⟨_, _, rfl, .inr a2, flat_rep h1 hs.2.2.1, e1, q _ H (Same.refl H) (.bl _)⟩
    · cases hf
  · split at hf
    · cases hf; cases h1; cases h2
      rw [bne_f] at q
      exact op_in_str pins s σ H _ _ v u Q I rx ry ⟨_, _, rfl, rfl, q _ H (Same.refl H) (.bl _)⟩
    · cases hf
  · cases hf
theorem or_notIn (hu : X.A.units + 65 < cLine) : OpR X (compareOp .NotIn) (rD2 X.K (isIn true)) := by
  intro pins s σ H x y v u Q I rx ry h
  obtain ⟨W, d, e, r, hK, hz, h1, h2, hf, q⟩ := h
  unfold isIn at hf
  split at hf
  · split at hf
    · rename_i hs; cases hf
      have d1 := h1.dp (SeqAt.canLay_of_shaped hs.1)
      have d2 := h2.dp (SeqAt.canLay_of_shaped hs.2)
      rw [hK] at d1 d2
      rw [bne_t] at q
      exact op_notInD hu pins s σ H x y v u Q I rx ry ⟨_, _, d1, d2, hs.1, hs.2, q _ H (Same.refl H) (.bl _)⟩
    · cases hf
  · split at hf
    · rename_i hs; cases hf
      cases h2 with
      | tup a2 r2 =>
        rw [hK] at a2
        obtain ⟨e1, e2⟩ := flat_any h1 hs.2.2.1 r2 hs.2.2.2
        rw [bne_t, ← e2] at q
        exact op_notIn_seq pins s σ H x _ v u Q I rx ry ⟨_, _, rfl, .inr a2, flat_rep h1 hs.2.2.1, e1, q _ H (Same.refl H) (.bl _)⟩
    · cases hf
  · split at hf
    · cases hf; cases h1; cases h2
      rw [bne_t] at q
      exact op_notin_str pins s σ H _ _ v u Q I rx ry ⟨_, _, rfl, rfl, q _ H (Same.refl H) (.bl _)⟩
    · cases hf
  · cases hf
/-- is None, is not None; is True, is not False -/
def isN (b : Bool) (d e : D) : Out D := match e with
  | .none => .ok (.bool (b != match d with | .none => true | _ => false))
  | .bool c => (match d with
    | .bool a => .ok (.bool (b != (a == c)))
    | _ => .bad)
  | _ => .bad
theorem or_is : OpR X (compareOp .Is) (rD2 X.K (isN false)) := by
  intro pins s σ H x y v u Q I rx ry h
  obtain ⟨W, d, e, r, hK, hz, h1, h2, hf, q⟩ := h
  unfold isN at hf
  split at hf
  · cases hf; cases h2
    rw [bne_f] at q
    refine op_isN pins s σ H _ _ v u Q I rx ry ⟨rfl, q _ H (Same.refl H) ?_⟩
    cases h1 <;> exact .bl _
  · split at hf
    · cases hf; cases h1; cases h2
      rw [bne_f] at q
      refine op_is_bl pins s σ H _ _ v u Q I rx ry ⟨_, _, rfl, rfl, q _ H (Same.refl H) ?_⟩
      rw [← beq_dec]; exact .bl _
    · cases hf
  · cases hf
theorem or_isNot : OpR X (compareOp .IsNot) (rD2 X.K (isN true)) := by
  intro pins s σ H x y v u Q I rx ry h
  obtain ⟨W, d, e, r, hK, hz, h1, h2, hf, q⟩ := h
  unfold isN at hf
  split at hf
  · cases hf; cases h2
    rw [bne_t] at q
    refine op_notN pins s σ H _ _ v u Q I rx ry ⟨rfl, q _ H (Same.refl H) ?_⟩
    cases h1 <;> exact .bl _
  · split at hf
    · cases hf; cases h1; cases h2
      rw [bne_t] at q
      refine op_isnot_bl pins s σ H _ _ v u Q I rx ry ⟨_, _, rfl, rfl, q _ H (Same.refl H) ?_⟩
      rw [← beq_dec]; exact .bl _
    · cases hf
  · cases hf
end
end DV
set_option Elab.async false
set_option linter.all false
set_option maxRecDepth 100000
set_option maxHeartbeats 4000000
namespace DV
open PySem PySem.Spec PyProof.Rows L2

/-! ### items, cuts -/
def ixD : D → D → Out D
  | .list ds, .int i => (match atI ds i with | some d => .ok d | none => .bad)
  | .tuple ds, .int i => (match atI ds i with | some d => .ok d | none => .bad)
  | .dict [(.none, .list ds)], .int i => (match atI ds i with | some d => .ok d | none => .bad)
  | .str z, .int i => if z.length ≤ 16777216 then (match atI z.cps.toList i with | some c => .ok (.str ⟨#[c]⟩) | none => .bad) else .bad
  | _, _ => .bad
def cutL {t : Type} (xs : List t) (lo hi : Option Int) : List t := (xs.drop (HT.sIx xs.length 0 lo)).take (HT.sIx xs.length xs.length hi - HT.sIx xs.length 0 lo)
def sliceD (d : D) (lo hi : Option Int) : Out D := match d with
  | .list ds => .ok (.list (cutL ds lo hi))
  | .tuple ds => .ok (.tuple (cutL ds lo hi))
  | .str z => if z.length ≤ 16777216 then .ok (.str (cutS z lo hi)) else .bad
  | _ => .bad
section
variable {X : Cx} {W : Wd} {H : Hp}
theorem Reps.atI {vs : List V} {ds : List D} {i : Int} {d : D} (r : Reps W H vs ds) (h : L2.atI ds i = some d) : ∃ v, L2.atI vs i = some v ∧ Rep W H v d := by
  unfold L2.atI at h ⊢
  rw [r.length]
  cases e : ixN ds.length i with
  | none => rw [e] at h; cases h
  | some j =>
    rw [e] at h
    exact r.get (i := j) (by simpa using h)
def rIxD (K : PySem.W.Frag) : R2 := rD2 K ixD
theorem ix_all : IxR X (rD2 X.K ixD) := by
  intro value slice pins s σ H x y v u Q I rx ry h hs
  obtain ⟨W, d, e, r, hK, hz, h1, h2, hf, q⟩ := h
  unfold ixD at hf
  split at hf
  · split at hf
    · rename_i hd; cases hf
      cases h2
      cases h1 with
      | lst n1 a1 r1 =>
        obtain ⟨w, e1, e2⟩ := r1.atI hd
        exact ix_list value slice pins s σ H _ _ v u Q I rx ry ⟨_, _, _, _, rfl, rfl, .inl (.inl a1), e1, q _ H (Same.refl H) e2⟩ hs
    · cases hf
  · split at hf
    · rename_i hd; cases hf
      cases h2
      cases h1 with
      | tup a1 r1 =>
        obtain ⟨w, e1, e2⟩ := r1.atI hd
        rw [hK] at a1
        exact ix_tup value slice pins s σ H _ _ v u Q I rx ry ⟨_, _, _, _, rfl, rfl, a1, e1, q _ H (Same.refl H) e2⟩ hs
    · cases hf
  · split at hf
    · rename_i hd; cases hf
      cases h2
      cases h1 with
      | scr a1 r1 =>
        obtain ⟨w, e1, e2⟩ := r1.atI hd
        exact ix_list value slice pins s σ H _ _ v u Q I rx ry ⟨_, _, _, _, rfl, rfl, by rw [← hK]; exact a1.l, e1, q _ H (Same.refl H) e2⟩ hs
      | scrL n1 a1 r1 =>
        obtain ⟨w, e1, e2⟩ := r1.atI hd
        exact ix_list value slice pins s σ H _ _ v u Q I rx ry ⟨_, _, _, _, rfl, rfl, (.inl (.inl a1) : SqL X.K H _ _), e1, q _ H (Same.refl H) e2⟩ hs
    · cases hf
  · split at hf
    · rename_i hl
      split at hf
      · rename_i hd; cases hf
        cases h2; cases h1
        exact ix_str value slice pins s σ H _ _ v u Q I rx ry ⟨_, _, _, rfl, rfl, by rw [sz]; exact hl, hd, q _ H (Same.refl H) (.str _)⟩ hs
      · cases hf
    · cases hf
  · cases hf
def rSliceD (K : PySem.W.Frag) : V → Option Int → Option Int → Hp → VK → Prop := fun x lo hi H Q => ∃ (W : Wd) (d r : D), W.K = K ∧ ZL W.Z H ∧ Rep W H x d ∧ sliceD d lo hi = .ok r ∧ ∀ v H', Same H H' → Rep W H' v r → Q v H'
theorem reps_cut {vs : List V} {ds : List D} (r : Reps W H vs ds) (lo hi : Option Int) : Reps W H (cutV vs lo hi) (cutL ds lo hi) := by
  unfold cutV cutL
  rw [r.length]
  exact (r.drop _).take _
theorem sl_all : SlR X (rSliceD X.K) := by
  intro pins s σ H x v vl vu lo hi sl Q I rx hs pl pu h
  obtain ⟨W, d, r, hK, hz, h1, hf, q⟩ := h
  unfold sliceD at hf
  split at hf
  · cases hf
    cases h1 with
    | lst n1 a1 r1 => exact sl_list pins s σ H _ v vl vu lo hi sl Q I rx hs pl pu ⟨_, _, rfl, .inl (.inl a1), fun p hp => q _ _ (same_upd hp) (rep_lst hz hp (reps_cut r1 lo hi))⟩
  · cases hf
    cases h1 with
    | @tup a xs ds a1 r1 =>
      have a2 := a1
      rw [hK] at a2
      refine sl_tupA pins s σ H _ v vl vu lo hi sl Q I rx hs pl pu ⟨_, _, rfl, a2, fun e => ?_, fun _ p hp => q _ _ (same_upd hp) (rep_tup hz hp (reps_cut r1 lo hi))⟩
      refine q _ H (Same.refl H) (.tup a1 ?_)
      have w := reps_cut r1 lo hi
      have e2 : cutV xs lo hi = xs := by
        unfold cutV
        rw [e.1, e.2, List.drop_zero, Nat.sub_zero, List.take_length]
      rw [e2] at w
      exact w
  · split at hf
    · rename_i hl; cases hf; cases h1
      exact sl_str pins s σ H _ v vl vu lo hi sl Q I rx hs pl pu ⟨_, rfl, by rw [sz]; exact hl, q _ H (Same.refl H) (.str _)⟩
    · cases hf
  · cases hf
end

/-! ### built-in functions -/
def rDs (K : PySem.W.Frag) (f : List D → Out D) : List V → Hp → VK → Prop := fun xs H Q => ∃ (W : Wd) (ds : List D) (r : D), W.K = K ∧ ZL W.Z H ∧ Reps W H xs ds ∧ f ds = .ok r ∧ ∀ v H', Same H H' → Rep W H' v r → Q v H'
def lenD : List D → Out D
  | [.list ds] => .ok (.int ds.length)
  | [.tuple ds] => .ok (.int ds.length)
  | [.dict [(.none, .list ds)]] => .ok (.int ds.length)
  | [.str z] => if z.length ≤ 16777216 then .ok (.int z.length) else .bad
  | _ => .bad
def absD : List D → Out D
  | [.int i] => .ok (.int (if i < 0 then -i else i))
  | _ => .bad
def maxD : List D → Out D
  | [.int i, .int j] => .ok (.int (if j > i then j else i))
  | _ => .bad
def minD : List D → Out D
  | [.int i, .int j] => .ok (.int (if j < i then j else i))
  | _ => .bad
def intD : List D → Out D
  | [.int i] => .ok (.int i)
  | [.bool b] => .ok (.int (if b then 1 else 0))
  | [.str z] => (match PySem.intText? z with
    | some n => if z.length ≤ 640 then .ok (.int n) else .bad
    | none => .bad)
  | _ => .bad
def strD : List D → Out D
  | [.int i] => if i.natAbs.log2 < 1920 then .ok (.str (toString i)) else .bad
  | [.str z] => .ok (.str z)
  | _ => .bad
def tupleD : List D → Out D
  | [.list ds] => .ok (.tuple ds)
  | [.tuple ds] => .ok (.tuple ds)
  | _ => .bad
def listD : List D → Out D
  | [.list ds] => .ok (.list ds)
  | [.tuple ds] => .ok (.list ds)
  | _ => .bad
def boolsOf : List D → Option (List Bool)
  | [] => some []
  | .bool b :: r => (match boolsOf r with | some bs => some (b :: bs) | none => none)
  | _ :: _ => none
def allD : List D → Out D
  | [.list ds] => (match boolsOf ds with | some bs => .ok (.bool (bs.all id)) | none => .bad)
  | _ => .bad
def anyD : List D → Out D
  | [.list ds] => (match boolsOf ds with | some bs => .ok (.bool (bs.any id)) | none => .bad)
  | _ => .bad
section
variable {X : Cx} {W : Wd} {H : Hp}
theorem reps1 {xs : List V} {d : D} (r : Reps W H xs [d]) : ∃ x, xs = [x] ∧ Rep W H x d := by
  cases r with
  | cons h t => cases t; exact ⟨_, rfl, h⟩
theorem reps2 {xs : List V} {d e : D} (r : Reps W H xs [d, e]) : ∃ x y, xs = [x, y] ∧ Rep W H x d ∧ Rep W H y e := by
  cases r with
  | cons h t => obtain ⟨y, rfl, k⟩ := reps1 t; exact ⟨_, _, rfl, h, k⟩
theorem cr_len : CallR X (.builtin "len") (rDs X.K lenD) := by
  intro pins s σ H xs us Q I r h
  obtain ⟨W, ds, d, hK, hz, h1, hf, q⟩ := h
  unfold lenD at hf
  split at hf
  · cases hf
    obtain ⟨x, rfl, g1⟩ := reps1 h1
    cases g1 with
    | lst n a r1 => exact call_len pins s σ H _ us Q I r ⟨_, _, rfl, .inl ⟨_, .inl (.inl a), r1.length.symm⟩, q _ H (Same.refl H) (.int _)⟩
  · cases hf
    obtain ⟨x, rfl, g1⟩ := reps1 h1
    cases g1 with
    | tup a r1 => rw [hK] at a; exact call_len pins s σ H _ us Q I r ⟨_, _, rfl, .inr ⟨_, a, r1.length.symm⟩, q _ H (Same.refl H) (.int _)⟩
  · cases hf
    obtain ⟨x, rfl, g1⟩ := reps1 h1
    cases g1 with
    | scr a r1 => exact call_len pins s σ H _ us Q I r ⟨_, _, rfl, .inl ⟨_, by rw [← hK]; exact a.l, r1.length.symm⟩, q _ H (Same.refl H) (.int _)⟩
    | scrL n a r1 => exact call_len pins s σ H _ us Q I r ⟨_, _, rfl, .inl ⟨_, .inl (.inl a), r1.length.symm⟩, q _ H (Same.refl H) (.int _)⟩
  · split at hf
    · rename_i hl; cases hf
      obtain ⟨x, rfl, g1⟩ := reps1 h1
      cases g1
      exact call_len pins s σ H _ us Q I r ⟨_, _, rfl, ⟨by rw [sz]; exact hl, rfl⟩, q _ H (Same.refl H) (.int _)⟩
    · cases hf
  · cases hf
theorem cr_abs : CallR X (.builtin "abs") (rDs X.K absD) := by
  intro pins s σ H xs us Q I r h
  obtain ⟨W, ds, d, hK, hz, h1, hf, q⟩ := h
  unfold absD at hf
  split at hf
  · cases hf
    obtain ⟨x, rfl, g1⟩ := reps1 h1
    cases g1
    exact call_abs pins s σ H _ us Q I r ⟨_, rfl, q _ H (Same.refl H) (.int _)⟩
  · cases hf
theorem cr_max2 (hc : X.calm = true) : CallR X (.builtin "max") (rDs X.K maxD) := by
  intro pins s σ H xs us Q I r h
  obtain ⟨W, ds, d, hK, hz, h1, hf, q⟩ := h
  unfold maxD at hf
  split at hf
  · cases hf
    obtain ⟨x, y, rfl, g1, g2⟩ := reps2 h1
    cases g1; cases g2
    exact call_max2 hc pins s σ H _ us Q I r ⟨_, _, rfl, q _ H (Same.refl H) (.int _)⟩
  · cases hf
theorem cr_min2 (hc : X.calm = true) : CallR X (.builtin "min") (rDs X.K minD) := by
  intro pins s σ H xs us Q I r h
  obtain ⟨W, ds, d, hK, hz, h1, hf, q⟩ := h
  unfold minD at hf
  split at hf
  · cases hf
    obtain ⟨x, y, rfl, g1, g2⟩ := reps2 h1
    cases g1; cases g2
    exact call_min2 hc pins s σ H _ us Q I r ⟨_, _, rfl, q _ H (Same.refl H) (.int _)⟩
  · cases hf
theorem cr_int : CallR X (.type "int") (rDs X.K intD) := by
  intro pins s σ H xs us Q I r h
  obtain ⟨W, ds, d, hK, hz, h1, hf, q⟩ := h
  unfold intD at hf
  split at hf
  · cases hf
    obtain ⟨x, rfl, g1⟩ := reps1 h1
    cases g1
    exact call_int1 pins s σ H _ us Q I r (.inl ⟨_, rfl, q _ H (Same.refl H) (.int _)⟩)
  · cases hf
    obtain ⟨x, rfl, g1⟩ := reps1 h1
    cases g1
    exact call_int1 pins s σ H _ us Q I r (.inr ⟨_, rfl, q _ H (Same.refl H) (.int _)⟩)
  · split at hf
    · rename_i he
      split at hf
      · rename_i hl; cases hf
        obtain ⟨x, rfl, g1⟩ := reps1 h1
        cases g1
        exact call_int_str pins s σ H _ us Q I r ⟨_, _, rfl, he, hl, q _ H (Same.refl H) (.int _)⟩
      · cases hf
    · cases hf
  · cases hf
theorem cr_str : CallR X (.type "str") (rDs X.K strD) := by
  intro pins s σ H xs us Q I r h
  obtain ⟨W, ds, d, hK, hz, h1, hf, q⟩ := h
  unfold strD at hf
  split at hf
  · split at hf
    · rename_i hl; cases hf
      obtain ⟨x, rfl, g1⟩ := reps1 h1
      cases g1
      exact call_str_int pins s σ H _ us Q I r ⟨_, rfl, hl, q _ H (Same.refl H) (.str _)⟩
    · cases hf
  · cases hf
    obtain ⟨x, rfl, g1⟩ := reps1 h1
    cases g1
    exact SkE.call_str_str pins s σ H _ us Q I r ⟨_, rfl, q _ H (Same.refl H) (.str _)⟩
  · cases hf
theorem cr_tuple : CallR X (.type "tuple") (rDs X.K tupleD) := by
  intro pins s σ H xs us Q I r h
  obtain ⟨W, ds, d, hK, hz, h1, hf, q⟩ := h
  unfold tupleD at hf
  split at hf
  · cases hf
    obtain ⟨x, rfl, g1⟩ := reps1 h1
    cases g1 with
    | lst n a r1 => exact call_tuple_of pins s σ H _ us Q I r ⟨_, _, rfl, .inl ⟨.inl (.inl a), fun p hp => q _ _ (same_upd hp) (rep_tup hz hp r1)⟩⟩
  · cases hf
    obtain ⟨x, rfl, g1⟩ := reps1 h1
    cases g1 with
    | tup a r1 => have a2 := a; rw [hK] at a2; exact call_tuple_of pins s σ H _ us Q I r ⟨_, _, rfl, .inr ⟨a2, q _ H (Same.refl H) (.tup a r1)⟩⟩
  · cases hf
theorem cr_list : CallR X (.type "list") (rDs X.K listD) := by
  intro pins s σ H xs us Q I r h
  obtain ⟨W, ds, d, hK, hz, h1, hf, q⟩ := h
  unfold listD at hf
  split at hf
  · cases hf
    obtain ⟨x, rfl, g1⟩ := reps1 h1
    cases g1 with
    | lst n a r1 => exact call_list_of pins s σ H _ us Q I r ⟨_, _, rfl, .inl (.inl (.inl a)), fun p hp => q _ _ (same_upd hp) (rep_lst hz hp r1)⟩
  · cases hf
    obtain ⟨x, rfl, g1⟩ := reps1 h1
    cases g1 with
    | tup a r1 => rw [hK] at a; exact call_list_of pins s σ H _ us Q I r ⟨_, _, rfl, .inr a, fun p hp => q _ _ (same_upd hp) (rep_lst hz hp r1)⟩
  · cases hf
theorem bools_rep : ∀ {vs : List V} {ds : List D} {bs : List Bool}, Reps W H vs ds → boolsOf ds = some bs → vs = bs.map V.bl
  | _, _, _, .nil, e => by cases e; rfl
  | _, _, _, .cons h t, e => by
    unfold boolsOf at e
    split at e
    · rename_i heq; cases heq
    · rename_i heq; cases heq
      split at e
      · rename_i hb
        cases e; cases h
        rw [bools_rep t hb]; rfl
      · cases e
    · cases e
theorem cr_allD (hc : X.calm = true) : CallR X (.builtin "all") (rDs X.K allD) := by
  intro pins s σ H xs us Q I r h
  obtain ⟨W, ds, d, hK, hz, h1, hf, q⟩ := h
  unfold allD at hf
  split at hf
  · split at hf
    · rename_i hb; cases hf
      obtain ⟨x, rfl, g1⟩ := reps1 h1
      cases g1 with
      | lst n a r1 =>
        rw [bools_rep r1 hb] at a
        exact cr_all hc pins s σ H _ us Q I r ⟨_, _, rfl, .inl (.inl a), q _ H (Same.refl H) (.bl _)⟩
    · cases hf
  · cases hf
theorem cr_anyD (hc : X.calm = true) : CallR X (.builtin "any") (rDs X.K anyD) := by
  intro pins s σ H xs us Q I r h
  obtain ⟨W, ds, d, hK, hz, h1, hf, q⟩ := h
  unfold anyD at hf
  split at hf
  · split at hf
    · rename_i hb; cases hf
      obtain ⟨x, rfl, g1⟩ := reps1 h1
      cases g1 with
      | lst n a r1 =>
        rw [bools_rep r1 hb] at a
        exact cr_any hc pins s σ H _ us Q I r ⟨_, _, rfl, .inl (.inl a), q _ H (Same.refl H) (.bl _)⟩
    · cases hf
  · cases hf
/-! ### isinstance -/
def tyName : D → Option String
  | .none => some "NoneType"
  | .bool _ => some "bool"
  | .int _ => some "int"
  | .str _ => some "str"
  | .list _ => some "list"
  | .tuple _ => some "tuple"
  | .dict _ => none
def isiB (a b : String) : Option Bool := if a = b then some true else if a = "bool" ∧ b = "int" then some true else if ["NoneType", "bool", "int", "str", "list", "tuple"].contains a ∧ ["bool", "int", "str", "list", "tuple"].contains b then some false else none
theorem rep_ty {v : V} {d : D} {n : String} (r : Rep W H v d) (h : tyName d = some n) : TyX W.K H v (.type n) := by
  cases r with
  | non => cases h; exact .base .non
  | bl b => cases h; exact .base (.bl b)
  | int b => cases h; exact .base (.int b)
  | str b => cases h; exact .base (.str b)
  | lst n a r => cases h; exact .base (.lst a)
  | tup a r =>
    cases h
    rcases a with (a | ⟨o, a⟩) | ⟨o, its, n, a, b, _⟩
    · exact .base (.tup a)
    · exact .fTuple a
    · exact .kTuple a b
  | obj h' => cases h
  | scr a r => cases h
  | scrL n a r => cases h
theorem isi_kit {K : PySem.W.Frag} {a b : String} {r : Bool} (h : isiB a b = some r) : PySem.W.kitOne K (.type a) (.type b) = some r := by
  refine kit_ty ?_
  unfold isiB at h
  split at h
  · rename_i e; subst e; cases h
    unfold kitB
    rw [if_pos (beq_self_eq_true _)]
  · split at h
    · rename_i e; cases h
      obtain ⟨rfl, rfl⟩ := e
      decide +kernel
    · split at h
      · rename_i n1 n2 e
        cases h
        obtain ⟨e1, e2⟩ := e
        simp only [List.contains_cons, List.contains_nil, Bool.or_false, Bool.or_eq_true, beq_iff_eq] at e1 e2
        rcases e1 with rfl | rfl | rfl | rfl | rfl | rfl <;> rcases e2 with rfl | rfl | rfl | rfl | rfl <;> first
          | (exact absurd rfl n1)
          | (exact absurd ⟨rfl, rfl⟩ n2)
          | decide +kernel
      · cases h
def isiD (T : String) : List D → Out D
  | [d] => (match tyName d with
    | some n => (match isiB n T with | some b => .ok (.bool b) | none => .bad)
    | none => .bad)
  | _ => .bad
/-- isinstance(x, T), T a built-in class by its name -/
def rIsiD (K : PySem.W.Frag) (T : String) : List V → Hp → VK → Prop := fun xs H Q => ∃ (W : Wd) (x : V) (d r : D), xs = [x, .ty T] ∧ W.K = K ∧ ZL W.Z H ∧ Rep W H x d ∧ isiD T [d] = .ok r ∧ ∀ v H', Same H H' → Rep W H' v r → Q v H'
theorem cr_isi (T : String) : CallR X (.builtin "isinstance") (rIsiD X.K T) := by
  intro pins s σ H xs us Q I r h
  obtain ⟨W, x, d, rr, rfl, hK, hz, h1, hf, q⟩ := h
  unfold isiD at hf
  dsimp only at hf
  split at hf
  · rename_i n hn
    split at hf
    · rename_i b hb; cases hf
      have t := rep_ty h1 hn
      rw [hK] at t
      exact call_isi pins s σ H _ us Q I r ⟨_, _, _, _, _, rfl, .ty _, t, isi_kit hb, q _ H (Same.refl H) (.bl _)⟩
    · cases hf
  · cases hf
end
end DV
set_option Elab.async false
set_option linter.all false
set_option maxRecDepth 100000
set_option maxHeartbeats 4000000
/-! A small language of data, and what its texts come to. -/
namespace DV
open PySem PySem.Spec PyProof.Rows L2

inductive Slot where
  | no | val (d : D) | own (ds : List D) | bag (ds : List D)
/-- what a body sees: its slots, the objects -/
structure En where
  sl : List Slot
  st : List (Nat × List (Str × D))

inductive Bo where
  | add | sub | mul | div | mod | pow
inductive Cm where
  | eq | ne | lt | le | gt | ge | isin | notin | is | isnt
inductive Bi where
  | len | abs | max | min | int | str | tuple | list | all | any

/-- targets -/
inductive Tg where
  | name (i : Nat) | sub (i j : Nat) | nil | cons (a r : Tg)

/-- the block: its scope as it runs, whose cells may be stored (a def: all; a comprehension: its own), whether lambdas may be made -/
structure Bl where
  sc : Scope
  fb : Option Scope
  lm : Bool
/-- a form of its own: what it comes to, which texts have it, with their parts in order -/
structure Fm where
  f : List D → Out D
  m : List Str → Bl → Expr → Option (List Expr)
inductive E where
  | var (i : Nat)
  | cst (d : D)
  | glob (x : Str) (d : D)
  | neg (a : E)
  | bin (o : Bo) (a b : E)
  | cmp (o : Cm) (a b : E)
  | chain (o p : Cm) (a b c : E)
  | not (a : E) | and (a b : E) | or (a b : E) | ite (c a b : E)
  | tup (es : E) | lst (es : E)
  | cat (a b : E)
  | call (x : Str) (f : List D → Out D) (es : E)
  | callF (x : Str) (f : List D → Out (List D)) (es : E)
  | callB (x : Str) (f : List D → List D → Out (D × List D)) (j : Nat) (es : E)
  | bi (b : Bi) (es : E)
  | isi (a : E) (T : String)
  | ix (a b : E)
  | sl (a lo hi : E)
  | rev (a : E)
  | comp (elt : E) (t : Tg) (it : E) (cond : E) (own : List Nat)
  | ownNil (i : Nat) (neg : Bool) | ownIx (i : Nat) (e : E) | ownLen (i : Nat)
  | pop0 (i : Nat) | popE (i : Nat)
  | ext (x : Fm) (es : E)
  | lam (x : Str) (g : Out D → Out D) (a : E)
  | nil | cons (a b : E) | no
  | rng1 (a : E) | rng2 (a b : E) | enum (a : E) | zip (a b : E)

inductive SO where
  | next (e : En) | brk (e : En) | ret (d : D) (e : En) | retf (ds : List D) (e : En) | reto (i : Nat) (e : En) | err (c : Str) | bad
/-- a block of its own: what it comes to, which texts it is -/
structure Bm where
  f : En → SO
  m : List Str → Bl → List Stmt → Bool
/-- how a slot tells of its value: as data, as an own list -/
inductive Kd where
  | val | own
inductive S where
  | skip
  | seq (a b : S)
  | set (t : Tg) (e : E)
  | setC (k : Kd) (i : Nat) (e : E)
  | par2 (k l : Kd) (i j : Nat) (a b : E)
  | par3 (k l m : Kd) (i j n : Nat) (a b c : E)
  | own (k : Kd) (i : Nat) (e : E)
  | app (i : Nat) (e : E)
  | setIx (i : Nat) (k e : E)
  | frz (i : Nat)
  | ex (e : E)
  | ret (e : E) | retF (e : E) | retN | retOwn (i : Nat)
  | ite (c : E) (a b : S)
  | loop (n : Nat) (c : E) (b : S)
  | each (t : Tg) (it : E) (b : S)
  | raise (x : Str)
  | brk
  | blk (x : Bm)

/-! ### what it comes to -/
def Bo.f : Bo → D → D → Out D
  | .add => addD | .sub => subD | .mul => mulD | .div => divD | .mod => modD | .pow => powD
def Cm.f : Cm → D → D → Out D
  | .eq => eqD | .ne => neD
  | .lt => cmpI fun i j => decide (i < j) | .le => cmpI fun i j => decide (i ≤ j)
  | .gt => cmpI fun i j => decide (j < i) | .ge => cmpI fun i j => decide (j ≤ i)
  | .isin => isIn false | .notin => isIn true | .is => isN false | .isnt => isN true
def Bi.f : Bi → List D → Out D
  | .len => lenD | .abs => absD | .max => maxD | .min => minD | .int => intD | .str => strD | .tuple => tupleD | .list => listD | .all => allD | .any => anyD

def Out.bind {s t : Type} (a : Out s) (f : s → Out t) : Out t := match a with
  | .ok x => f x
  | .err c => .err c
  | .bad => .bad
def Out.map {s t : Type} (f : s → t) (a : Out s) : Out t := match a with
  | .ok x => .ok (f x)
  | .err c => .err c
  | .bad => .bad
/-- an answer, the slots as they stand -/
def Out.at {s : Type} (a : Out s) (e : En) : Out (s × En) := match a with
  | .ok x => .ok (x, e)
  | .err c => .err c
  | .bad => .bad
def truthD : D → Out Bool
  | .none => .ok false
  | .bool b => .ok b
  | .int i => .ok (i != 0)
  | .str z => if z.length ≤ 16777216 then .ok ((z.length : Int) != 0) else .bad
  | .list ds => .ok (!ds.isEmpty)
  | .tuple ds => .ok (!ds.isEmpty)
  | .dict _ => .bad
def boolD : D → Out Bool
  | .bool b => .ok b
  | _ => .bad
def negD : D → Out D
  | .int i => .ok (.int (-i))
  | _ => .bad
/-- lists alone: a new one -/
def catD : D → D → Out D
  | .list xs, .list ys => if xs.length + ys.length ≤ 16777216 then .ok (.list (xs ++ ys)) else .bad
  | _, _ => .bad
def revD : D → Out D
  | .list ds => .ok (.list ds.reverse)
  | .tuple ds => .ok (.tuple ds.reverse)
  | _ => .bad
def partD : D → Out (Option Int)
  | .int i => .ok (some i)
  | _ => .bad
def itemsD : D → Out (List D)
  | .list ds => .ok ds
  | .tuple ds => .ok ds
  | _ => .bad
def rngL (lo : Int) : Nat → List D
  | 0 => []
  | n + 1 => .int lo :: rngL (lo + 1) n
def rngD : D → D → Out (List D)
  | .int i, .int j => if -4611686018427387904 ≤ i ∧ i < 4611686018427387904 ∧ -4611686018427387904 ≤ j ∧ j < 4611686018427387904 then .ok (rngL i (j - i).toNat) else .bad
  | _, _ => .bad
def enumL (i : Int) : List D → List D
  | [] => []
  | d :: r => .tuple [.int i, d] :: enumL (i + 1) r
def zipL : List D → List D → List D
  | a :: r, b :: t => .tuple [a, b] :: zipL r t
  | _, _ => []
def enumD : D → Out (List D)
  | .list ds => .ok (enumL 0 ds)
  | _ => .bad
def zipD : D → D → Out (List D)
  | .list ds, .list es => .ok (zipL ds es)
  | .tuple ds, .tuple es => .ok (zipL ds es)
  | _, _ => .bad

/-! slots -/
def En.get (e : En) (i : Nat) : Out D := match e.sl[i]? with
  | some (.val d) => .ok d
  | _ => .bad
def En.getOwn (e : En) (i : Nat) : Out (List D) := match e.sl[i]? with
  | some (.own ds) => .ok ds
  | _ => .bad
def En.getBag (e : En) (i : Nat) : Out (List D) := match e.sl[i]? with
  | some (.bag ds) => .ok ds
  | _ => .bad
def En.getAny (e : En) (i : Nat) : Out (List D) := match e.sl[i]? with
  | some (.own ds) => .ok ds
  | some (.bag ds) => .ok ds
  | _ => .bad
/-- the list in slot i, own or got, holds ds now -/
def En.putAny (e : En) (i : Nat) (ds : List D) : En := match e.sl[i]? with
  | some (.bag _) => ⟨e.sl.set i (.bag ds), e.st⟩
  | _ => ⟨e.sl.set i (.own ds), e.st⟩
/-- slot i may get another value -/
def En.free (e : En) (i : Nat) : Bool := match e.sl[i]? with
  | some (.bag _) => false
  | some _ => true
  | none => false
def En.put (e : En) (i : Nat) (x : Slot) : En := ⟨e.sl.set i x, e.st⟩
def wipeL (sl : List Slot) : List Nat → List Slot
  | [] => sl
  | v :: vs => (wipeL sl vs).set v .no
def backL (sl old : List Slot) : List Nat → List Slot
  | [] => sl
  | v :: vs => (backL sl old vs).set v (old.getD v .no)
def En.wipe (e : En) (vs : List Nat) : En := ⟨wipeL e.sl vs, e.st⟩
def En.back (e old : En) (vs : List Nat) : En := ⟨backL e.sl old.sl vs, e.st⟩
def setL (ds : List D) (k : D) (x : D) : Out (List D) := match k with
  | .int i => (match ixN ds.length i with
    | some j => .ok (ds.set j x)
    | none => .bad)
  | _ => .bad
/-- what a lambda sees: data alone -/
def En.shut (e : En) : En := ⟨e.sl.map fun s => match s with
  | .val d => .val d
  | _ => .no, []⟩
/-- a target's stores: of a value, of the values in a row -/
def tg : Tg → (D → En → Out En) × (List D → En → Out En)
  | .name i => (fun d e => if e.free i = true then .ok (e.put i (.val d)) else .bad, fun _ _ => .bad)
  | .sub i j => (fun d e => (e.get j).bind fun k => (e.getOwn i).bind fun ds => (setL ds k d).bind fun ds' => .ok (e.put i (.own ds')), fun _ _ => .bad)
  | .nil => (fun d e => (match d with
    | .tuple [] => .ok e
    | _ => .bad), fun ds e => (match ds with
    | [] => .ok e
    | _ => .bad))
  | .cons a r => (fun d e => (match d with
    | .tuple (x :: ds) => ((tg a).1 x e).bind ((tg r).2 ds)
    | _ => .bad), fun ds e => (match ds with
    | x :: ds => ((tg a).1 x e).bind ((tg r).2 ds)
    | [] => .bad))
abbrev asg (t : Tg) : D → En → Out En := (tg t).1

/-- nothing is raised here -/
def Out.noErr {s : Type} (a : Out s) : Out s := match a with
  | .err _ => .bad
  | a => a
def ownFree (sl : List Slot) (vs : List Nat) : Bool := vs.all fun i => match sl[i]? with
  | some (.own _) => false
  | some (.bag _) => false
  | _ => true
/-- a comprehension's turns -/
def compL (g : D → En → Out En) (c : En → Out (Bool × En)) (f : En → Out (D × En)) (vs : List Nat) : List D → En → List D → Out (List D × En)
  | [], e, acc => .ok (acc, e)
  | d :: r, e, acc => (g d e).bind fun e1 => (c e1).bind fun (b, e2) =>
    if b = true then (f e2).bind fun (x, e3) => if acc.length < 16777216 then compL g c f vs r (e3.wipe vs) (acc ++ [x]) else .bad
    else compL g c f vs r (e2.wipe vs) acc

/-- a text's values, as a value, a test, arguments, a part of a slice, a comprehension's test, what is walked -/
structure Ev where
  v : En → Out (D × En)
  t : En → Out (Bool × En)
  as : En → Out (List D × En)
  p : En → Out (Option Int × En)
  c : En → Out (Bool × En)
  i : En → Out (List D × En)
def mkT (v : En → Out (D × En)) (t : En → Out (Bool × En)) : Ev where
  v := v
  t := t
  as := fun _ => .bad
  p := fun e => (v e).bind fun (x, e1) => (partD x).at e1
  c := t
  i := fun e => (v e).bind fun (x, e1) => (itemsD x).at e1
def mkV (v : En → Out (D × En)) : Ev := mkT v fun e => (v e).bind fun (x, e1) => (truthD x).at e1
def mkA (as : En → Out (List D × En)) : Ev where
  v := fun _ => .bad
  t := fun _ => .bad
  as := as
  p := fun _ => .bad
  c := fun _ => .bad
  i := fun _ => .bad
def mkI (i : En → Out (List D × En)) : Ev where
  v := fun _ => .bad
  t := fun _ => .bad
  as := fun _ => .bad
  p := fun _ => .bad
  c := fun _ => .bad
  i := i
def ev : E → Ev
  | .var i => mkV fun e => (e.get i).at e
  | .cst d => mkV fun e => .ok (d, e)
  | .glob _ d => mkV fun e => .ok (d, e)
  | .neg a => mkV fun e => ((ev a).v e).bind fun (x, e1) => (negD x).at e1
  | .bin o a b => mkV fun e => ((ev a).v e).bind fun (x, e1) => ((ev b).v e1).bind fun (y, e2) => (o.f x y).at e2
  | .cmp o a b => mkT (fun e => ((ev a).v e).bind fun (x, e1) => ((ev b).v e1).bind fun (y, e2) => (o.f x y).at e2)
    fun e => ((ev a).v e).bind fun (x, e1) => ((ev b).v e1).bind fun (y, e2) => (o.f x y).bind fun k => (boolD k).at e2
  | .chain o p a b c => mkT (fun e => ((ev a).v e).bind fun (x, e1) => ((ev b).v e1).bind fun (y, e2) => (o.f x y).bind fun k => (boolD k).bind fun t =>
    if t = true then ((ev c).v e2).bind fun (z, e3) => (p.f y z).at e3 else .ok (.bool false, e2))
    fun e => ((ev a).v e).bind fun (x, e1) => ((ev b).v e1).bind fun (y, e2) => (o.f x y).bind fun k => (boolD k).bind fun t =>
    if t = true then ((ev c).v e2).bind fun (z, e3) => (p.f y z).bind fun k => (boolD k).at e3 else .ok (false, e2)
  | .not a => mkT (fun e => ((ev a).v e).bind fun (x, e1) => (truthD x).bind fun c => .ok (.bool (!c), e1))
    fun e => ((ev a).t e).bind fun (c, e1) => .ok (!c, e1)
  | .and a b => mkT (fun e => ((ev a).v e).bind fun (x, e1) => (boolD x).bind fun c => if c = true then (ev b).v e1 else .ok (.bool false, e1))
    fun e => ((ev a).t e).bind fun (c, e1) => if c = true then (ev b).t e1 else .ok (false, e1)
  | .or a b => mkT (fun e => ((ev a).v e).bind fun (x, e1) => (boolD x).bind fun c => if c = true then .ok (.bool true, e1) else (ev b).v e1)
    fun e => ((ev a).t e).bind fun (c, e1) => if c = true then .ok (true, e1) else (ev b).t e1
  | .ite c a b => mkT (fun e => ((ev c).t e).bind fun (t, e1) => if t = true then (ev a).v e1 else (ev b).v e1)
    fun e => ((ev c).t e).bind fun (t, e1) => if t = true then (ev a).t e1 else (ev b).t e1
  | .tup es => mkV fun e => ((ev es).as e).bind fun (xs, e1) => if xs.length ≤ 16777216 then .ok (.tuple xs, e1) else .bad
  | .lst es => mkV fun e => ((ev es).as e).bind fun (xs, e1) => if xs.length ≤ 16777216 then .ok (.list xs, e1) else .bad
  | .cat a b => mkV fun e => ((ev a).v e).bind fun (x, e1) => ((ev b).v e1).bind fun (y, e2) => (catD x y).at e2
  | .call _ f es => mkV fun e => ((ev es).as e).bind fun (xs, e1) => (f xs).at e1
  | .callF _ f es => mkV fun e => ((ev es).as e).bind fun (xs, e1) => ((f xs).map PyData.list).at e1
  | .callB _ f j es => mkV fun e => (e.getAny j).bind fun _ => ((ev es).as e).bind fun (xs, e1) => (e1.getAny j).bind fun bg => (f bg xs).noErr.bind fun (r, bg') => .ok (r, e1.putAny j bg')
  | .bi b es => mkV fun e => ((ev es).as e).bind fun (xs, e1) => (b.f xs).at e1
  | .isi a T => mkV fun e => ((ev a).v e).bind fun (x, e1) => (isiD T [x]).at e1
  | .ix a b => mkV fun e => ((ev a).v e).bind fun (x, e1) => ((ev b).v e1).bind fun (y, e2) => (ixD x y).at e2
  | .sl a lo hi => mkV fun e => ((ev a).v e).bind fun (x, e1) => ((ev lo).p e1).bind fun (l, e2) => ((ev hi).p e2).bind fun (u, e3) => (sliceD x l u).at e3
  | .rev a => mkV fun e => ((ev a).v e).bind fun (x, e1) => (revD x).at e1
  | .comp elt t it cond vs => mkV fun e => ((ev it).i e).bind fun (ds, e1) => if ownFree e1.sl vs = true then (compL (asg t) (ev cond).c (ev elt).v vs ds (e1.wipe vs) []).noErr.bind fun (xs, e2) => .ok (.list xs, e2.back e1 vs) else .bad
  | .ownNil i neg => mkT (fun e => (e.getAny i).bind fun ds => if SeqAt.shaped (.list ds) = true then .ok (.bool (neg != ds.isEmpty), e) else .bad) fun e => (e.getAny i).bind fun ds => if SeqAt.shaped (.list ds) = true then .ok (neg != ds.isEmpty, e) else .bad
  | .ownLen i => mkV fun e => (e.getAny i).bind fun ds => .ok (.int ds.length, e)
  | .ownIx i k => mkV fun e => (e.getAny i).bind fun _ => ((ev k).v e).bind fun (y, e1) => (e1.getAny i).bind fun ds => (ixD (.list ds) y).at e1
  | .ext x es => mkV fun e => ((ev es).as e).bind fun (xs, e1) => (x.f xs).at e1
  | .lam _ g a => mkV fun e => (g (((ev a).v e.shut).map (·.1))).at e
  | .pop0 i => mkV fun e => (e.getBag i).bind fun ds => match ds with
    | [] => .bad
    | d :: r => .ok (d, e.put i (.bag r))
  | .popE i => mkV fun e => (e.getOwn i).bind fun ds => match ds.getLast? with
    | some d => .ok (d, e.put i (.own ds.dropLast))
    | none => .bad
  | .nil => mkA fun e => .ok ([], e)
  | .cons a b => mkA fun e => ((ev a).v e).bind fun (x, e1) => ((ev b).as e1).bind fun (xs, e2) => .ok (x :: xs, e2)
  | .no => { mkA (fun _ => .bad) with p := fun e => .ok (none, e), c := fun e => .ok (true, e) }
  | .rng1 a => mkI fun e => ((ev a).v e).bind fun (x, e1) => (rngD (.int 0) x).at e1
  | .rng2 a b => mkI fun e => ((ev a).v e).bind fun (x, e1) => ((ev b).v e1).bind fun (y, e2) => (rngD x y).at e2
  | .enum a => mkI fun e => ((ev a).v e).bind fun (x, e1) => (enumD x).at e1
  | .zip a b => mkI fun e => ((ev a).v e).bind fun (x, e1) => ((ev b).v e1).bind fun (y, e2) => (zipD x y).at e2
abbrev evE (m : E) : En → Out (D × En) := (ev m).v
abbrev evT (m : E) : En → Out (Bool × En) := (ev m).t
abbrev evEs (m : E) : En → Out (List D × En) := (ev m).as
abbrev evI (m : E) : En → Out (List D × En) := (ev m).i

def Out.so {s : Type} (a : Out s) (f : s → SO) : SO := match a with
  | .ok x => f x
  | .err c => .err c
  | .bad => .bad
def loopS (c : En → Out (Bool × En)) (b : En → SO) : Nat → En → SO
  | 0, _ => .bad
  | n + 1, e => (c e).so fun (t, e1) => if t = true then (match b e1 with
    | .next e2 => loopS c b n e2
    | .brk e2 => .next e2
    | r => r) else .next e1
def eachS (g : D → En → Out En) (b : En → SO) : List D → En → SO
  | [], e => .next e
  | d :: r, e => (g d e).so fun e1 => match b e1 with
    | .next e2 => eachS g b r e2
    | .brk e2 => .next e2
    | r => r
def En.set1 (e : En) (i : Nat) (x : Slot) : SO := if e.free i = true then .next (e.put i x) else .bad
def SO.noErr : SO → SO
  | .err _ => .bad
  | r => r
def Kd.slot (k : Kd) (d : D) : Out Slot := match k, d with
  | .val, d => .ok (.val d)
  | .own, .list ds => .ok (.own ds)
  | _, _ => .bad
def evS : S → En → SO
  | .skip, e => .next e
  | .seq a b, e => (match evS a e with
    | .next e1 => evS b e1
    | r => r)
  | .set t m, e => (evE m e).so fun (x, e1) => (asg t x e1).so .next
  | .setC k i m, e => (evE m e).so fun (x, e1) => (k.slot x).so fun s => e1.set1 i s
  | .par2 k l i j a b, e => (evE a e).so fun (x, e1) => (evE b e1).so fun (y, e2) => (k.slot x).so fun s => (l.slot y).so fun t => if e2.free i = true ∧ e2.free j = true then .next ((e2.put i s).put j t) else .bad
  | .par3 k l m i j n a b c, e => (evE a e).so fun (x, e1) => (evE b e1).so fun (y, e2) => (evE c e2).so fun (z, e3) => (k.slot x).so fun s => (l.slot y).so fun t => (m.slot z).so fun u => if e3.free i = true ∧ e3.free j = true ∧ e3.free n = true then .next (((e3.put i s).put j t).put n u) else .bad
  | .own k i m, e => (evE m e).so fun (x, e1) => (k.slot x).so fun s => e1.set1 i s
  | .app i m, e => (e.getAny i).so fun _ => (evE m e).so fun (x, e1) => (e1.getAny i).so fun ds => if ds.length < 16777216 then .next (e1.putAny i (ds ++ [x])) else .bad
  | .setIx i k m, e => (evE m e).so fun (x, e1) => (e1.getOwn i).so fun _ => (evE k e1).so fun (y, e2) => (e2.getOwn i).so fun ds => (setL ds y x).so fun ds' => .next (e2.put i (.own ds'))
  | .frz i, e => (e.getOwn i).so fun ds => .next (e.put i (.val (.list ds)))
  | .ex m, e => (evE m e).so fun (_, e1) => .next e1
  | .ret m, e => (evE m e).so fun (x, e1) => .ret x e1
  | .retF m, e => (evE m e).so fun (x, e1) => (match x with
    | .list ds => .retf ds e1
    | _ => .bad)
  | .retN, e => .ret .none e
  | .retOwn i, e => (e.getOwn i).so fun _ => .reto i e
  | .ite c a b, e => (evT c e).so fun (t, e1) => if t = true then evS a e1 else evS b e1
  | .loop n c b, e => (loopS (evT c) (evS b) n e).noErr
  | .each t it b, e => ((evI it e).so fun (ds, e1) => eachS (asg t) (evS b) ds e1).noErr
  | .raise x, _ => .err x
  | .brk, e => .brk e
  | .blk x, e => x.f e

/-- a def -/
structure Fn where
  ps : List Str
  n : Nat
  body : S
def Fn.en (f : Fn) (ds : List D) : En := ⟨ds.map Slot.val ++ List.replicate (f.n - ds.length) .no, []⟩
/-- its value -/
def Fn.run (f : Fn) (ds : List D) : Out D := if ds.length = f.ps.length then (match evS f.body (f.en ds) with
  | .next _ => .ok .none
  | .ret d _ => .ok d
  | .retf ds _ => .ok (.list ds)
  | .reto i e => (e.getOwn i).map PyData.list
  | .err c => .err c
  | _ => .bad) else .bad
/-- its new list -/
def Fn.runF (f : Fn) (ds : List D) : Out (List D) := if ds.length = f.ps.length then (match evS f.body (f.en ds) with
  | .retf ds _ => .ok ds
  | .reto i e => e.getOwn i
  | .err c => .err c
  | _ => .bad) else .bad
/-- its value, the list that it got first as it then stands -/
def Fn.enB (f : Fn) (bg ds : List D) : En := ⟨.bag bg :: (ds.map Slot.val ++ List.replicate (f.n - (ds.length + 1)) .no), []⟩
def Fn.runB (f : Fn) (bg ds : List D) : Out (D × List D) := if ds.length + 1 = f.ps.length then (match evS f.body (f.enB bg ds) with
  | .next e => (e.getBag 0).map fun b => (.none, b)
  | .ret d e => (e.getBag 0).map fun b => (d, b)
  | .err c => .err c
  | _ => .bad) else .bad
end DV
set_option Elab.async false
set_option linter.all false
set_option maxRecDepth 100000
set_option maxHeartbeats 4000000
/-! Which program texts a text of the small language stands for. -/
namespace DV
open PySem PySem.Spec PyProof.Rows L2

def Bo.op : Bo → Operator
  | .add => .Add | .sub => .Sub | .mul => .Mult | .div => .FloorDiv | .mod => .Mod | .pow => .Pow
def Cm.op : Cm → CmpOp
  | .eq => .Eq | .ne => .NotEq | .lt => .Lt | .le => .LtE | .gt => .Gt | .ge => .GtE | .isin => .In | .notin => .NotIn | .is => .Is | .isnt => .IsNot
def Bi.nm : Bi → Str
  | .len => "len" | .abs => "abs" | .max => "max" | .min => "min" | .int => "int" | .str => "str" | .tuple => "tuple" | .list => "list" | .all => "all" | .any => "any"

def Bl.fn (b : Bl) (x : Str) : Bool := match b.fb with
  | none => true
  | some s => s.names.lookup x == some .cell
def isLoc (k : Option NameKind) : Bool := match k with
  | some .local => true
  | some .cell => true
  | _ => false
def isVis (k : Option NameKind) : Bool := match k with
  | some .local => true
  | some .cell => true
  | some .free => true
  | _ => false
/-- x is the name in slot i, to be read -/
def nmB (N : List Str) (b : Bl) (i : Nat) (x : Str) : Bool := decide (N[i]? = some x) && isVis (b.sc.names.lookup x)
/-- .. to be stored -/
def lcB (N : List Str) (b : Bl) (i : Nat) (x : Str) : Bool := decide (N[i]? = some x) && isLoc (b.sc.names.lookup x) && (b.fn x || decide (b.sc.names.lookup x = some .local))
/-- y is x, a name of the module or a built-in one -/
def glB (b : Bl) (x y : Str) : Bool := decide (y = x) && decide (b.sc.names.lookup x = some .globalImplicit) && !(x == ("__debug__" : Str)) && decide (x ≠ "__name__")
def cstB : D → Const → Bool
  | .none, .none => true
  | .bool b, .bool c => b == c
  | .int i, .int j => decide (i = j)
  | .str x, .str y => decide (x = y)
  | _, _ => false
def Bl.inn (b : Bl) (s : Scope) : Bl := ⟨relS s b.sc, some s, false⟩
def isTupX : Expr → Bool
  | .Tuple _ _ _ => true
  | _ => false
def noSl : Expr → Bool
  | .Slice _ _ _ _ => false
  | _ => true

mutual
def mTg (N : List Str) (b : Bl) : Tg → Expr → Bool
  | .name i, .Name x _ => lcB N b i x
  | .sub i j, .Subscript (.Name x _) (.Name y _) _ => nmB N b i x && nmB N b j y
  | .nil, _ => false
  | .cons a r, .Tuple (e :: es) _ _ => mTg N b a e && mTgs N b r es
  | _, _ => false
def mTgs (N : List Str) (b : Bl) : Tg → List Expr → Bool
  | .name _, _ => false
  | .sub _ _, _ => false
  | .nil, [] => true
  | .nil, _ => false
  | .cons a r, e :: es => mTg N b a e && mTgs N b r es
  | .cons _ _, [] => false
end

def Tg.slots : Tg → List Nat
  | .name i => [i]
  | .sub _ _ => []
  | .nil => []
  | .cons a r => a.slots ++ r.slots
/-- as a value, arguments, a part of a slice, a comprehension's tests, what is walked (behind its target) -/
structure Mt where
  v : Bl → Expr → Bool
  as : Bl → List Expr → Bool
  p : Bl → Option Expr → Bool
  c : Bl → List Expr → Bool
  i : Bl → Expr → Expr → Bool
def mtV (v : Bl → Expr → Bool) : Mt where
  v := v
  as := fun _ _ => false
  p := fun b o => match o with
    | some e => v b e
    | none => false
  c := fun b l => match l with
    | [e] => v b e
    | _ => false
  i := fun b _ e => v b e
def mt0 : Mt where
  v := fun _ _ => false
  as := fun _ _ => false
  p := fun _ _ => false
  c := fun _ _ => false
  i := fun _ _ _ => false
def mt (N : List Str) : E → Mt
  | .var i => mtV fun b e => match e with
    | .Name x _ => nmB N b i x
    | _ => false
  | .cst d => mtV fun _ e => match e with
    | .Constant c _ _ => cstB d c
    | _ => false
  | .glob x _ => mtV fun b e => match e with
    | .Name y _ => glB b x y
    | _ => false
  | .neg a => mtV fun b e => match e with
    | .UnaryOp .USub a' _ => (mt N a).v b a'
    | _ => false
  | .bin o a c => mtV fun b e => match e with
    | .BinOp a' op c' _ => decide (op = o.op) && (mt N a).v b a' && (mt N c).v b c'
    | _ => false
  | .cmp o a c => mtV fun b e => match e with
    | .Compare a' [op] [c'] _ => decide (op = o.op) && (mt N a).v b a' && (mt N c).v b c'
    | _ => false
  | .chain o p a c d => mtV fun b e => match e with
    | .Compare a' [op, op'] [c', d'] _ => decide (op = o.op) && decide (op' = p.op) && (mt N a).v b a' && (mt N c).v b c' && (mt N d).v b d'
    | _ => false
  | .not a => mtV fun b e => match e with
    | .UnaryOp .Not a' _ => (mt N a).v b a'
    | _ => false
  | .and a c => mtV fun b e => match e with
    | .BoolOp .And [x, y] _ => (mt N a).v b x && (mt N c).v b y
    | .BoolOp .And (x :: y :: z :: r) p => (mt N a).v b x && (mt N c).v b (.BoolOp .And (y :: z :: r) p)
    | _ => false
  | .or a c => mtV fun b e => match e with
    | .BoolOp .Or [x, y] _ => (mt N a).v b x && (mt N c).v b y
    | .BoolOp .Or (x :: y :: z :: r) p => (mt N a).v b x && (mt N c).v b (.BoolOp .Or (y :: z :: r) p)
    | _ => false
  | .ite c a d => mtV fun b e => match e with
    | .IfExp c' a' d' _ => (mt N c).v b c' && (mt N a).v b a' && (mt N d).v b d'
    | _ => false
  | .tup es => mtV fun b e => match e with
    | .Tuple l _ _ => (mt N es).as b l
    | _ => false
  | .lst es => mtV fun b e => match e with
    | .List l _ => (mt N es).as b l
    | _ => false
  | .cat a c => mtV fun b e => match e with
    | .BinOp a' op c' _ => decide (op = .Add) && (mt N a).v b a' && (mt N c).v b c'
    | _ => false
  | .call x _ es => mtV fun b e => match e with
    | .Call (.Name y _) (a :: l) [] _ => glB b x y && (mt N es).as b (a :: l)
    | _ => false
  | .callF x _ es => mtV fun b e => match e with
    | .Call (.Name y _) (a :: l) [] _ => glB b x y && (mt N es).as b (a :: l)
    | _ => false
  | .callB x _ j es => mtV fun b e => match e with
    | .Call (.Name y _) (.Name z _ :: l) [] _ => glB b x y && nmB N b j z && (mt N es).as b l
    | _ => false
  | .bi f es => mtV fun b e => match e with
    | .Call (.Name y _) (a :: l) [] _ => glB b f.nm y && (mt N es).as b (a :: l)
    | _ => false
  | .isi a T => mtV fun b e => match e with
    | .Call (.Name y _) [a', .Name t _] [] _ => glB b "isinstance" y && glB b (Str.ofString T) t && (mt N a).v b a'
    | _ => false
  | .ix a c => mtV fun b e => match e with
    | .Subscript a' c' _ => noSl c' && (mt N a).v b a' && (mt N c).v b c'
    | _ => false
  | .sl a lo hi => mtV fun b e => match e with
    | .Subscript a' (.Slice lo' hi' none _) _ => (mt N a).v b a' && (mt N lo).p b lo' && (mt N hi).p b hi'
    | _ => false
  | .rev a => mtV fun b e => match e with
    | .Subscript a' (.Slice none none (some (.UnaryOp .USub (.Constant (.int i) _ _) _)) _) _ => decide (i = 1) && (mt N a).v b a'
    | _ => false
  | .comp elt t it cond vs => mtV fun b e => match e with
    | .ListComp elt' [⟨tg', it', ifs', asy⟩] s _ => decide (asy = 0) && (t.slots.all fun i => vs.contains i) && (vs.all fun i => decide (i < N.length)) && blkC N b.sc s (vs.map fun i => (N.getD i Str.empty, i)) && mTg N (b.inn s) t tg' && (mt N it).i b tg' it' && (mt N cond).c (b.inn s) ifs' && (mt N elt).v (b.inn s) elt'
    | _ => false
  | .ownNil i neg => mtV fun b e => match e with
    | .Compare (.Name x _) [op] [.List [] _] _ => decide (op = if neg then CmpOp.NotEq else CmpOp.Eq) && nmB N b i x
    | _ => false
  | .ownLen i => mtV fun b e => match e with
    | .Call (.Name y _) [.Name x _] [] _ => glB b "len" y && nmB N b i x
    | _ => false
  | .ownIx i k => mtV fun b e => match e with
    | .Subscript (.Name x _) k' _ => noSl k' && nmB N b i x && (mt N k).v b k'
    | _ => false
  | .ext x es => mtV fun b e => match x.m N b e with
    | some l => (mt N es).as b l
    | none => false
  | .lam x _ a => mtV fun b e => match e with
    | .Call (.Name y _) [.Lambda ⟨[], [], none, [], [], none, []⟩ body s _] [] _ => b.lm && glB b x y && LamX.lamSB b.sc s && (mt N a).v ⟨s, some s, false⟩ body
    | _ => false
  | .pop0 i => mtV fun b e => match e with
    | .Call (.Attribute (.Name x _) w p) [.Constant (.int k) _ _] [] q => decide (w = ("pop" : Str)) && decide (k = 0) && nmB N b i x && (p.endLine == q.line)
    | _ => false
  | .popE i => mtV fun b e => match e with
    | .Call (.Attribute (.Name x _) w p) [] [] q => decide (w = ("pop" : Str)) && nmB N b i x && (p.endLine == q.line)
    | _ => false
  | .nil => { mt0 with as := fun _ l => match l with
    | [] => true
    | _ => false }
  | .cons a r => { mt0 with as := fun b l => match l with
    | e :: es => (mt N a).v b e && (mt N r).as b es
    | _ => false }
  | .no => { mt0 with
    p := fun _ o => match o with
      | none => true
      | some _ => false
    c := fun _ l => match l with
      | [] => true
      | _ => false }
  | .rng1 a => { mt0 with i := fun b _ e => match e with
    | .Call (.Name y _) [a'] [] _ => glB b "range" y && (mt N a).v b a'
    | _ => false }
  | .rng2 a c => { mt0 with i := fun b _ e => match e with
    | .Call (.Name y _) [a', c'] [] _ => glB b "range" y && (mt N a).v b a' && (mt N c).v b c'
    | _ => false }
  | .enum a => { mt0 with i := fun b tg e => match e with
    | .Call (.Name y _) [a'] [] _ => isTupX tg && glB b "enumerate" y && (mt N a).v b a'
    | _ => false }
  | .zip a c => { mt0 with i := fun b tg e => match e with
    | .Call (.Name y _) [a', c'] [] _ => isTupX tg && glB b "zip" y && (mt N a).v b a' && (mt N c).v b c'
    | _ => false }

/-- x = value: the comprehension's own swap is not taken -/
def noSw (b : Bl) (x : Str) (px : Pos) : Expr → Bool
  | .ListComp _ _ s pos => !(decide (b.sc.names.lookup x = some .local) && px.line == pos.line && !(s.names.any fun (n, k) => n == x && (k == .local || k == .cell)))
  | _ => true
def noLc : Expr → Bool
  | .ListComp _ _ _ _ => false
  | _ => true
def noTup : Expr → Bool
  | .Tuple _ _ _ => false
  | _ => true
def nameLoc (b : Bl) : Expr → Bool
  | .Name x _ => decide (b.sc.names.lookup x = some .local)
  | _ => false
/-- targets = values: no stores from behind -/
def noPar (b : Bl) : Expr → Expr → Bool
  | .Tuple ts _ _, .Tuple vs _ _ => vs.all (foldedForSure 8) || (!(decide (ts.length = 2) || decide (ts.length = 3)) || ts.any fun t => !nameLoc b t)
  | _, _ => true
/-- texts whose value is a new list -/
def frE : E → Bool
  | .lst _ => true
  | .cat _ _ => true
  | .comp _ _ _ _ _ => true
  | .callF _ _ _ => true
  | _ => false
def isLc : E → Bool
  | .comp _ _ _ _ _ => true
  | _ => false
def kdB : Kd → E → Bool
  | .val, _ => true
  | _, m => frE m
def atom : S → Bool
  | .skip => false
  | .frz _ => false
  | .seq _ _ => false
  | .blk _ => false
  | _ => true
def mS (N : List Str) (b : Bl) : S → List Stmt → Bool
  | .skip, l => l.isEmpty
  | .blk x, l => x.m N b l
  | .frz _, l => l.isEmpty
  | .seq (.frz _) r, l => mS N b r l
  | .seq a r, l => (match l with
    | st :: l => atom a && mS N b a [st] && mS N b r l
    | [] => false)
  | .set t m, l => (match l with
    | [.Assign [tg] e _] => mTg N b t tg && (mt N m).v b e && noPar b tg e && (match tg with
      | .Name x px => noSw b x px e
      | _ => true)
    | _ => false)
  | .setC k i m, l => (match l with
    | [.Assign [.Name x px] e _] => lcB N b i x && decide (b.sc.names.lookup x = some .local) && (mt N m).v b e && isLc m && !noSw b x px e
    | _ => false)
  | .par2 k k2 i j a c, l => (match l with
    | [.Assign [.Tuple [.Name x px, .Name y py] _ _] (.Tuple [a', c'] _ _) _] => lcB N b i x && lcB N b j y && decide (b.sc.names.lookup x = some .local) && decide (b.sc.names.lookup y = some .local) && decide (i ≠ j) && (px.line == py.line)
      && !(foldedForSure 8 a' && foldedForSure 8 c') && !(constantsAlone 8 a' && constantsAlone 8 c') && kdB k a && kdB k2 c && (mt N a).v b a' && (mt N c).v b c'
    | _ => false)
  | .par3 k k2 k3 i j n a c d, l => (match l with
    | [.Assign [.Tuple [.Name x px, .Name y py, .Name z pz] _ _] (.Tuple [a', c', d'] _ _) _] => lcB N b i x && lcB N b j y && lcB N b n z && decide (b.sc.names.lookup x = some .local) && decide (b.sc.names.lookup y = some .local) && decide (b.sc.names.lookup z = some .local)
      && decide (i ≠ j) && decide (i ≠ n) && decide (j ≠ n) && (px.line == py.line) && (px.line == pz.line) && !(foldedForSure 8 a' && foldedForSure 8 c' && foldedForSure 8 d') && !(constantsAlone 8 a' && constantsAlone 8 c' && constantsAlone 8 d')
      && kdB k a && kdB k2 c && kdB k3 d && (mt N a).v b a' && (mt N c).v b c' && (mt N d).v b d'
    | _ => false)
  | .own k i m, l => (match l with
    | [.Assign [.Name x px] e _] => lcB N b i x && kdB k m && noSw b x px e && (mt N m).v b e
    | _ => false)
  | .app i m, l => (match l with
    | [.Expr (.Call (.Attribute (.Name x _) w p) [e] [] q) _] => decide (w = ("append" : Str)) && nmB N b i x && (p.endLine == q.line) && (mt N m).v b e
    | _ => false)
  | .setIx i k m, l => (match l with
    | [.Assign [.Subscript (.Name x _) k' _] e _] => noSl k' && nmB N b i x && (mt N k).v b k' && noLc e && (mt N m).v b e
    | _ => false)
  | .ex m, l => (match l with
    | [.Expr e _] => noLc e && (mt N m).v b e
    | _ => false)
  | .ret m, l => (match l with
    | [.Return (some e) _] => (mt N m).v b e
    | _ => false)
  | .retF m, l => (match l with
    | [.Return (some e) _] => frE m && (mt N m).v b e
    | _ => false)
  | .retN, l => (match l with
    | [.Return none _] => true
    | _ => false)
  | .retOwn i, l => (match l with
    | [.Return (some (.Name x _)) _] => nmB N b i x
    | _ => false)
  | .ite c a d, l => (match l with
    | [.If c' a' d' _] => (mt N c).v b c' && mS N b a a' && mS N b d d'
    | _ => false)
  | .loop _ c r, l => (match l with
    | [.While c' r' [] _] => (mt N c).v b c' && mS N b r r'
    | _ => false)
  | .each t it r, l => (match l with
    | [.For tg it' r' [] _] => mTg N b t tg && (mt N it).i b tg it' && mS N b r r'
    | _ => false)
  | .raise x, l => (match l with
    | [.Raise (some (.Call (.Name y _) [.Constant (.str _) _ _] [] _)) none _] => glB b x y
    | _ => false)
  | .brk, l => (match l with
    | [.Break _] => true
    | _ => false)
end DV
set_option Elab.async false
set_option linter.all false
set_option maxRecDepth 100000
set_option maxHeartbeats 4000000
/-! A body's state and its slots; readings by what a text comes to. -/
namespace DV
open PySem PySem.Spec PyProof.Rows L2

/-- a def's entry: the written part, the module's names, what callers keep from us, the heap, what may be changed, the classes, the list got first, the tables of code -/
structure Gd where
  prog : Program
  w : World
  base : Heap
  K : PySem.W.Frag
  mg : Str → Option Value
  T : List (Addr × Str)
structure Ctx extends Gd where
  Z : Addr → Prop
  H0 : Hp
  B : Addr → Prop
  cl : Nat → Addr
  PP : List (Nat × Addr)
/-- the slots' own lists, the objects -/
structure Gh where
  M : List (Option Addr)
  O : List Addr
  X : List (Addr × List V)
def Zm (c : Ctx) (G : Gh) : Addr → Prop := fun a => c.Z a ∨ some a ∈ G.M ∨ ∃ xs, (a, xs) ∈ G.X
abbrev Ctx.wd (c : Ctx) (G : Gh) : Wd := ⟨c.K, Zm c G, G.O⟩
def slotOk (W : Wd) (H : Hp) (m : Option Addr) (x : Option V) : Slot → Prop
  | .no => m = none
  | .val d => m = none ∧ ∃ v, x = some v ∧ Rep W H v d
  | .own ds => ∃ a vs, m = some a ∧ x = some (.ref a) ∧ H a = some (.lst vs) ∧ Reps W H vs ds
  | .bag ds => ∃ a vs, m = some a ∧ x = some (.ref a) ∧ H a = some (.lst vs) ∧ Reps W H vs ds
/-- the ground stays -/
def Fr (c : Ctx) (H : Hp) : Prop := (∀ b o, c.H0 b = some o → ¬ isTbl o → ¬ c.B b → H b = some o) ∧ LamX.Tabs c.T H
structure Ok (c : Ctx) (G : Gh) (σ : L2.St) (H : Hp) (e : En) : Prop where
  len : e.sl.length = σ.length
  lenM : G.M.length = σ.length
  slot : ∀ (i : Nat) s, e.sl[i]? = some s → ∃ m x, G.M[i]? = some m ∧ σ[i]? = some x ∧ slotOk (c.wd G) H m x s
  inj : ∀ (i j : Nat) a, G.M[i]? = some (some a) → G.M[j]? = some (some a) → i = j
  fr : Fr c H
  zl : ZL (Zm c G) H
  own : ∀ (i : Nat) a, G.M[i]? = some (some a) → c.B a ∨ ∀ o, c.H0 a = some o → isTbl o
  mine : ∀ (i : Nat) ds a, e.sl[i]? = some (.own ds) → G.M[i]? = some (some a) → ¬ c.Z a
  pin : ∀ p ∈ G.X, H p.1 = some (.lst p.2) ∧ ∀ (j : Nat), G.M[j]? ≠ some (some p.1)
  arg : ∀ (p : Nat × Addr), p ∈ c.PP → G.M[p.1]? = some (some p.2) ∧ ∃ ds, e.sl[p.1]? = some (.bag ds)
  obs : ∀ (n k : Nat) fs, e.st[n]? = some (k, fs) → ∃ a dx vs, G.O[n]? = some a ∧ H a = some (.ins (c.cl k) dx vs) ∧ vs.map (·.1) = fs.map (·.1) ∧ Reps (c.wd G) H (vs.map (·.2)) (fs.map (·.2))

/-- all that was tracked is as it was, but tables -/
def Ext (H H' : Hp) : Prop := ∀ b o, H b = some o → ¬ isTbl o → H' b = some o
theorem Ext.refl (H : Hp) : Ext H H := fun _ _ h _ => h
theorem Ext.trans {H H1 H2 : Hp} (a : Ext H H1) (b : Ext H1 H2) : Ext H H2 := fun c o h n => b c o (a c o h n) n
theorem Ext.of {H H' : Hp} (s : Same H H') : Ext H H' := fun b o h _ => s b o h
theorem nt_dat {o : HO} (h : isDat o) : ¬ isTbl o := by cases o <;> simp_all [isDat, isTbl]
theorem Ext.keep {H H' : Hp} {Z : Addr → Prop} (x : Ext H H') : Keep Z H H' := fun b o h d _ => x b o h (nt_dat d)
theorem Ext.zl {H H' : Hp} {Z : Addr → Prop} (x : Ext H H') (h : ZL Z H) : ZL Z H' := fun b z => let ⟨xs, e⟩ := h b z; ⟨xs, x b _ e fun t => t⟩

section
variable {c : Ctx} {G G' : Gh} {σ : L2.St} {H H' : Hp} {e : En}
theorem Rep.ext {W : Wd} (hz : ZL W.Z H) (x : Ext H H') {v : V} {d : D} (r : Rep W H v d) : Rep W H' v d := r.keep rfl (fun _ z => .inl z) (fun _ _ h => h) hz x.keep
theorem Reps.ext {W : Wd} (hz : ZL W.Z H) (x : Ext H H') {v : List V} {d : List D} (r : Reps W H v d) : Reps W H' v d := r.keep rfl (fun _ z => .inl z) (fun _ _ h => h) hz x.keep
theorem slotOk.ext {W : Wd} {m : Option Addr} {x : Option V} {s : Slot} (hz : ZL W.Z H) (k : Ext H H') (h : slotOk W H m x s) : slotOk W H' m x s := by
  cases s with
  | no => exact h
  | val d => obtain ⟨a, v, b, r⟩ := h; exact ⟨a, v, b, r.ext hz k⟩
  | own ds => obtain ⟨a, vs, e1, e2, e3, r⟩ := h; exact ⟨a, vs, e1, e2, k a _ e3 fun t => t, r.ext hz k⟩
  | bag ds => obtain ⟨a, vs, e1, e2, e3, r⟩ := h; exact ⟨a, vs, e1, e2, k a _ e3 fun t => t, r.ext hz k⟩
theorem Fr.ext (h : Fr c H) (x : Ext H H') (t : LamX.Tabs c.T H') : Fr c H' := ⟨fun b o e n nb => x b o (h.1 b o e n nb) n, t⟩
theorem Ok.ext (h : Ok c G σ H e) (x : Ext H H') (t : LamX.Tabs c.T H') : Ok c G σ H' e where
  len := h.len
  lenM := h.lenM
  slot := fun i s q => let ⟨m, y, a, b, r⟩ := h.slot i s q; ⟨m, y, a, b, r.ext h.zl x⟩
  inj := h.inj
  fr := h.fr.ext x t
  zl := x.zl h.zl
  own := h.own
  mine := h.mine
  arg := h.arg
  pin := fun p hp => ⟨x p.1 _ (h.pin p hp).1 fun t => t, (h.pin p hp).2⟩
  obs := fun n k fs q => let ⟨a, dx, vs, e1, e2, e3, e4⟩ := h.obs n k fs q; ⟨a, dx, vs, e1, x a _ e2 fun t => t, e3, e4.ext h.zl x⟩
end

theorem Ok.same {c : Ctx} {G : Gh} {σ : L2.St} {H H' : Hp} {e : En} (h : Ok c G σ H e) (s : Same H H') : Ok c G σ H' e := h.ext (.of s) (h.fr.2.ext s)
/-- from one state to a later one -/
structure Step (c : Ctx) (G : Gh) (H : Hp) (G' : Gh) (H' : Hp) : Prop where
  M : G'.M = G.M
  X : G'.X = G.X
  O : G'.O = G.O
  keep : Keep (Zm c G) H H'
theorem Step.zm {c : Ctx} {G G' : Gh} {H H' : Hp} (s : Step c G H G' H') : Zm c G' = Zm c G := by unfold Zm; rw [s.M, s.X]
theorem Step.refl (c : Ctx) (G : Gh) (H : Hp) : Step c G H G H := ⟨rfl, rfl, rfl, .refl _ _⟩
theorem Step.trans {c : Ctx} {G G1 G2 : Gh} {H H1 H2 : Hp} (a : Step c G H G1 H1) (b : Step c G1 H1 G2 H2) : Step c G H G2 H2 :=
  ⟨b.M.trans a.M, b.X.trans a.X, b.O.trans a.O, a.keep.trans (by have := b.keep; rw [a.zm] at this; exact this)⟩
theorem Step.of_ext {c : Ctx} {G : Gh} {H H' : Hp} (x : Ext H H') : Step c G H G H' := ⟨rfl, rfl, rfl, x.keep⟩
theorem Step.rep {c : Ctx} {G G' : Gh} {H H' : Hp} (s : Step c G H G' H') (hz : ZL (Zm c G) H) {v : V} {d : D} (r : Rep (c.wd G) H v d) : Rep (c.wd G') H' v d :=
  Rep.keep (W := c.wd G) (W' := c.wd G') rfl (fun a z => .inl (by have z : Zm c G' a := z; rw [s.zm] at z; exact z)) (fun n a h => by show G'.O[n]? = _; rw [s.O]; exact h) hz s.keep r
theorem Step.reps {c : Ctx} {G G' : Gh} {H H' : Hp} (s : Step c G H G' H') (hz : ZL (Zm c G) H) {v : List V} {d : List D} (r : Reps (c.wd G) H v d) : Reps (c.wd G') H' v d :=
  Reps.keep (W := c.wd G) (W' := c.wd G') rfl (fun a z => .inl (by have z : Zm c G' a := z; rw [s.zm] at z; exact z)) (fun n a h => by show G'.O[n]? = _; rw [s.O]; exact h) hz s.keep r

/-- what is wanted behind an answer -/
def Post {s t : Type} (R : Wd → Hp → t → s → Prop) (c : Ctx) (Wx : WX) (G : Gh) (σ : L2.St) (H : Hp) (r : Out (s × En)) (Q : t → Hp → Prop) : Prop := match r with
  | .ok (d, e) => ∀ v H' G', Step c G H G' H' → Ok c G' σ H' e → R (c.wd G') H' v d → Q v H'
  | .err x => ∀ C H', c.mg x = some (.ref C) → Fr c H' → Wx (.ref C) none σ H'
  | .bad => False
abbrev RB (t : Type) : Wd → Hp → t → t → Prop := fun _ _ x y => x = y
def tR {s t : Type} (R : Wd → Hp → t → s → Prop) (c : Ctx) (Wx : WX) (f : En → Out (s × En)) : L2.St → Hp → (t → Hp → Prop) → Prop := fun σ H Q => ∃ G e, Ok c G σ H e ∧ Post R c Wx G σ H (f e) Q
abbrev tV (c : Ctx) (Wx : WX) (f : En → Out (D × En)) : TE := tR Rep c Wx f
abbrev tB (c : Ctx) (Wx : WX) (f : En → Out (Bool × En)) : TT := tR (RB Bool) c Wx f
abbrev tAs (c : Ctx) (Wx : WX) (f : En → Out (List D × En)) : TA := tR Reps c Wx f
abbrev tP (c : Ctx) (Wx : WX) (f : En → Out (Option Int × En)) : TO := tR (RB (Option Int)) c Wx f

section
variable {s t s' t' : Type} {R : Wd → Hp → t → s → Prop} {R' : Wd → Hp → t' → s' → Prop} {c : Ctx} {Wx : WX} {G : Gh} {σ : L2.St} {H : Hp}
theorem Post.mono {r : Out (s × En)} {Q Q' : t → Hp → Prop} (h : Post R c Wx G σ H r Q) (i : ∀ v H, Q v H → Q' v H) : Post R c Wx G σ H r Q' := by
  cases r with
  | ok p => obtain ⟨d, e⟩ := p; exact fun v H' G' a b r => i _ _ (h v H' G' a b r)
  | err x => exact h
  | bad => exact h
theorem Post.bind {r : Out (s × En)} {k : s × En → Out (s' × En)} {Q : t' → Hp → Prop} (h : Post R' c Wx G σ H (r.bind k) Q) :
    Post R c Wx G σ H r fun v H1 => ∃ G1 d e1, Step c G H G1 H1 ∧ Ok c G1 σ H1 e1 ∧ R (c.wd G1) H1 v d ∧ Post R' c Wx G1 σ H1 (k (d, e1)) Q := by
  cases r with
  | ok p =>
    obtain ⟨d, e⟩ := p
    intro v H1 G1 st ok r
    refine ⟨G1, d, e, st, ok, r, ?_⟩
    have h : Post R' c Wx G σ H (k (d, e)) Q := h
    revert h
    cases k (d, e) with
    | ok p => obtain ⟨d2, e2⟩ := p; exact fun h v H' G' a b r => h v H' G' (st.trans a) b r
    | err x => exact fun h => h
    | bad => exact fun h => h
  | err x => exact h
  | bad => exact h
/-- an answer that needs no state -/
theorem Post.at_ok {r : Out s} {e : En} {d : s} {Q : t → Hp → Prop} (h : Post R c Wx G σ H (r.at e) Q) (hr : r = .ok d) : ∀ v H' G', Step c G H G' H' → Ok c G' σ H' e → R (c.wd G') H' v d → Q v H' := by
  subst hr; exact h
theorem PE.imp {X : Cx} {e : Expr} {t t' : TE} (h : PE X e t) (i : ∀ σ H Q, t' σ H Q → t σ H Q) : PE X e t' := ⟨fun pins s σ H Q I q => h.run pins s σ H Q I (i _ _ _ q)⟩
theorem PT.imp {X : Cx} {e : Expr} {t t' : TT} (h : PT X e t) (i : ∀ σ H Q, t' σ H Q → t σ H Q) : PT X e t' := ⟨fun pins s σ H Q I q => h.run pins s σ H Q I (i _ _ _ q)⟩
theorem PW.imp {X : Cx} {e : Expr} {t t' : TT} (h : PW X e t) (i : ∀ σ H Q, t' σ H Q → t σ H Q) : PW X e t' := ⟨fun wh pins s σ H Q I q => h.run wh pins s σ H Q I (i _ _ _ q)⟩
theorem PA.imp {X : Cx} {e : List Expr} {t t' : TA} (h : PA X e t) (i : ∀ σ H Q, t' σ H Q → t σ H Q) : PA X e t' := ⟨fun ps pins s σ H Q I q => h.run ps pins s σ H Q I (i _ _ _ q)⟩
theorem PO.imp {X : Cx} {e : Option Expr} {t t' : TO} (h : PO X e t) (i : ∀ σ H Q, t' σ H Q → t σ H Q) : PO X e t' := ⟨fun pins s σ H Q I q => h.run pins s σ H Q I (i _ _ _ q)⟩
theorem PS.imp {X : Cx} {e : Stmt} {t t' : TS} (h : PS X e t) (i : ∀ D σ H, t' D σ H → t D σ H) : PS X e t' := ⟨fun pins s σ H D I q => h.run pins s σ H D I (i _ _ _ q)⟩
theorem PSs.imp {X : Cx} {e : List Stmt} {t t' : TS} (h : PSs X e t) (i : ∀ D σ H, t' D σ H → t D σ H) : PSs X e t' := ⟨fun pins s σ H D I q => h.run pins s σ H D I (i _ _ _ q)⟩
theorem PTs.imp {X : Cx} {e : List Expr} {t t' : TT} (h : PTs X e t) (i : ∀ σ H Q, t' σ H Q → t σ H Q) : PTs X e t' := ⟨fun pins s σ H Q I q => h.run pins s σ H Q I (i _ _ _ q)⟩
theorem PI.imp {X : Cx} {tg e : Expr} {t t' : TI} (h : PI X tg e t) (i : ∀ σ H R, t' σ H R → t σ H R) : PI X tg e t' := ⟨fun pins s σ H R I q => h.run pins s σ H R I (i _ _ _ q)⟩
theorem PG.imp {X : Cx} {e : Expr} {t t' : TG} (h : PG X e t) (i : ∀ v σ H Q, t' v σ H Q → t v σ H Q) : PG X e t' := ⟨fun pins s σ H v u Q I r q => h.run pins s σ H v u Q I r (i _ _ _ _ q)⟩
theorem PGs.imp {X : Cx} {e : List Expr} {t t' : TGs} (h : PGs X e t) (i : ∀ v σ H Q, t' v σ H Q → t v σ H Q) : PGs X e t' := ⟨fun pins s σ H v u Q I r q => h.run pins s σ H v u Q I r (i _ _ _ _ q)⟩
end

/-! ### simple expressions -/
section
variable {X : Cx} {c : Ctx} {Wx : WX} {a b d : Expr} {f g h : En → Out (D × En)} {pos : Pos}
theorem s_var {i : Nat} {x : Str} (hN : X.N[i]? = some x) (hv : Vis X.env.scope x) (hd : (x == ("__debug__" : Str)) = false) (hcd : (x == ("__classdict__" : Str)) = false) : PE X (.Name x pos) (tV c Wx fun e => (e.get i).at e) := by
  refine PE.imp (pe_var hN hv hd hcd) fun σ H Q hq => ?_
  obtain ⟨G, e, ok, p⟩ := hq
  dsimp only at p
  unfold En.get at p
  cases q : e.sl[i]? with
  | none => rw [q] at p; exact p.elim
  | some s =>
    rw [q] at p
    obtain ⟨m, x, h1, h2, h3⟩ := ok.slot i s q
    cases s with
    | no => exact p.elim
    | own ds => exact p.elim
    | bag ds => exact p.elim
    | val d =>
      obtain ⟨rfl, v, rfl, r⟩ := h3
      exact ⟨v, h2, p v H G (.refl _ _ _) ok r⟩
theorem s_const {v : V} {k : D} {e : Expr} (h : PE X e (tC v)) (r : ∀ W H, Rep W H v k) : PE X e (tV c Wx fun e => .ok (k, e)) := by
  refine PE.imp h fun σ H Q hq => ?_
  obtain ⟨G, e, ok, p⟩ := hq
  exact p v H G (.refl _ _ _) ok (r _ _)
theorem s_op2 {k : D → D → Out D} {e : Expr} {r : R2} (hr : r = rD2 c.K k) (ne : ∀ x y m, k x y ≠ .err m) (he : PE X e (tOp r (tV c Wx f) (tV c Wx g))) :
    PE X e (tV c Wx fun e => (f e).bind fun (x, e1) => (g e1).bind fun (y, e2) => (k x y).at e2) := by
  subst hr
  refine PE.imp he fun σ H Q hq => ?_
  obtain ⟨G, e, ok, p⟩ := hq
  refine ⟨G, e, ok, (Post.bind (R := Rep) p).mono fun x H1 ⟨G1, d1, e1, st1, ok1, r1, p1⟩ => ⟨G1, e1, ok1, (Post.bind (R := Rep) p1).mono fun y H2 ⟨G2, d2, e2, st2, ok2, r2, p2⟩ => ?_⟩⟩
  cases q : k d1 d2 with
  | ok r =>
    dsimp only at p2
    rw [q] at p2
    exact ⟨c.wd G2, d1, d2, r, rfl, ok2.zl, st2.rep ok1.zl r1, r2, q, fun v H' sm rr => p2 v H' G2 (.of_ext (.of sm)) (ok2.same sm) rr⟩
  | err x =>
    dsimp only at p2
    rw [q] at p2
    exact (ne _ _ _ q).elim
  | bad =>
    dsimp only at p2
    rw [q] at p2
    exact p2.elim
end
end DV
set_option Elab.async false
set_option linter.all false
set_option maxRecDepth 100000
set_option maxHeartbeats 4000000
/-! Rules for expressions: by what their parts come to. -/
namespace DV
open PySem PySem.Spec PyProof.Rows L2

/-! ### shapes -/
def noStar : Expr → Bool
  | .Starred _ _ => false
  | _ => true
theorem star_cons {e : Expr} {es : List Expr} {env : PySem.Env} (h : noStar e = true) : starEach (e :: es) env = (false, eval e env) :: starEach es env := by
  cases e <;> first | rfl | (exact absurd h (by simp [noStar]))
theorem star_all {pos : Pos} {env : PySem.Env} : ∀ {es : List Expr}, es.all noStar = true → (backTo pos (starEach es env)).any (·.1) = false
  | [], _ => rfl
  | e :: es, h => by
    rw [List.all_cons, Bool.and_eq_true] at h
    rw [star_cons h.1]
    show (false || (backTo pos (starEach es env)).any (·.1)) = false
    rw [star_all h.2]; rfl
/-- tests by truth alone -/
def plainT : Expr → Bool
  | .UnaryOp .Not _ _ => false
  | .BoolOp _ _ _ => false
  | .IfExp _ _ _ _ => false
  | .Compare _ _ _ _ => false
  | _ => true
theorem plain_isTrue {e : Expr} {env : PySem.Env} (h : plainT e = true) (whole : Sem Value) : isTrue e env whole = (do let v ← whole; standAt e.pos; holding [v] (truthy v)) := by
  cases e with
  | UnaryOp op a p => cases op <;> first | rfl | exact nomatch h
  | _ => first | rfl | exact nomatch h
theorem noSl_ix {b : Expr} (h : noSl b = true) : PlainIx b := by
  intro o i
  cases b <;> first | rfl | (exact absurd h (by simp [noSl]))

section
variable {X : Cx} {c : Ctx} {Wx : WX} {a b d : Expr} {f g h : En → Out (D × En)} {ft gt ht : En → Out (Bool × En)} {pos : Pos}
theorem ne_neg : ∀ x m, negD x ≠ .err m := by
  intro x m h; unfold negD at h; split at h <;> cases h
theorem at_ne {s : Type} {r : Out s} {e : En} {m : Str} (h : r ≠ .err m) : r.at e ≠ .err m := by
  cases r with
  | ok x => exact fun z => nomatch z
  | err x => exact fun z => h (by cases z; rfl)
  | bad => exact fun z => nomatch z
theorem s_neg (ha : PE X a (tV c Wx f)) : PE X (.UnaryOp .USub a pos) (tV c Wx fun e => (f e).bind fun (x, e1) => (negD x).at e1) := by
  refine PE.imp (pe_un un_neg ha) fun σ H Q hq => ?_
  obtain ⟨G, e, ok, p⟩ := hq
  refine ⟨G, e, ok, (Post.bind (R := Rep) p).mono fun x H1 ⟨G1, d1, e1, st1, ok1, r1, p1⟩ => ?_⟩
  dsimp only at p1
  cases d1 with
  | int i => cases r1; exact ⟨i, rfl, p1 _ H1 G1 (.refl _ _ _) ok1 (.int _)⟩
  | _ => exact p1.elim
theorem tru_rep {W : Wd} {H : Hp} {v : V} {d : D} {k : Bool} (r : Rep W H v d) (h : truthD d = .ok k) : TruV W.K v H k := by
  cases r with
  | non => cases h; rfl
  | bl b => cases h; rfl
  | int i => cases h; rfl
  | str z =>
    simp only [truthD] at h
    split at h
    · rename_i hs; cases h; exact ⟨by rw [sz]; exact hs, rfl⟩
    · cases h
  | @lst a xs ds n e r =>
    cases h
    refine .inl ⟨xs, .inl (.inl e), ?_⟩
    cases r <;> rfl
  | @tup a xs ds e r =>
    cases h
    refine .inr (.inl ⟨xs, e, ?_⟩)
    cases r <;> rfl
  | obj h' => cases h
  | scr h' r => cases h
  | scrL n h' r => cases h
theorem ne_truth : ∀ x m, truthD x ≠ .err m := by
  intro x m h; unfold truthD at h; split at h <;> first | cases h | (split at h <;> cases h)
theorem ne_bool : ∀ x m, boolD x ≠ .err m := by
  intro x m h; unfold boolD at h; split at h <;> cases h
theorem s_not (hK : X.K = c.K) (ha : PE X a (tV c Wx f)) : PE X (.UnaryOp .Not a pos) (tV c Wx fun e => (f e).bind fun (x, e1) => (truthD x).bind fun k => .ok (.bool (!k), e1)) := by
  refine PE.imp (pe_notT ha) fun σ H Q hq => ?_
  obtain ⟨G, e, ok, p⟩ := hq
  refine ⟨G, e, ok, (Post.bind (R := Rep) p).mono fun x H1 ⟨G1, d1, e1, st1, ok1, r1, p1⟩ => ?_⟩
  dsimp only at p1
  cases q : truthD d1 with
  | ok k => rw [q] at p1; exact ⟨k, by rw [hK]; exact tru_rep r1 q, p1 _ H1 G1 (.refl _ _ _) ok1 (.bl _)⟩
  | err m => exact (ne_truth _ _ q).elim
  | bad => rw [q] at p1; exact p1.elim
/-- the truth of a value -/
theorem t_truth (hK : X.K = c.K) (hp : plainT a = true) (ha : PE X a (tV c Wx f)) : PT X a (tB c Wx fun e => (f e).bind fun (x, e1) => (truthD x).at e1) := by
  refine PT.imp (pt_truth ha (plain_isTrue hp)) fun σ H Q hq => ?_
  obtain ⟨G, e, ok, p⟩ := hq
  refine ⟨G, e, ok, (Post.bind (R := Rep) p).mono fun x H1 ⟨G1, d1, e1, st1, ok1, r1, p1⟩ => ?_⟩
  dsimp only at p1
  cases q : truthD d1 with
  | ok k => rw [q] at p1; exact ⟨k, by rw [hK]; exact tru_rep r1 q, p1 _ H1 G1 (.refl _ _ _) ok1 rfl⟩
  | err m => exact (ne_truth _ _ q).elim
  | bad => rw [q] at p1; exact p1.elim
theorem t_not (ha : PT X a (tB c Wx ft)) : PT X (.UnaryOp .Not a pos) (tB c Wx fun e => (ft e).bind fun (k, e1) => .ok (!k, e1)) := by
  refine PT.imp (pt_not ha) fun σ H Q hq => ?_
  obtain ⟨G, e, ok, p⟩ := hq
  refine ⟨G, e, ok, (Post.bind (R := RB Bool) p).mono fun x H1 ⟨G1, d1, e1, st1, ok1, r1, p1⟩ => ?_⟩
  subst r1
  exact p1 _ H1 G1 (.refl _ _ _) ok1 rfl
/-! and, or -/
theorem s_and {rest : List Expr} (ha : PE X a (tV c Wx f)) (hb : PE X (.BoolOp .And (b :: rest) pos) (tV c Wx g)) :
    PE X (.BoolOp .And (a :: b :: rest) pos) (tV c Wx fun e => (f e).bind fun (x, e1) => (boolD x).bind fun k => if k = true then g e1 else .ok (.bool false, e1)) := by
  refine PE.imp (pe_and ha hb) fun σ H Q hq => ?_
  obtain ⟨G, e, ok, p⟩ := hq
  refine ⟨G, e, ok, (Post.bind (R := Rep) p).mono fun x H1 ⟨G1, d1, e1, st1, ok1, r1, p1⟩ => ?_⟩
  dsimp only at p1
  cases d1 with
  | bool k =>
    cases r1
    refine ⟨k, rfl, ?_⟩
    cases k with
    | true => exact ⟨G1, e1, ok1, p1⟩
    | false => exact p1 _ H1 G1 (.refl _ _ _) ok1 (.bl _)
  | _ => exact p1.elim
theorem s_or {rest : List Expr} (ha : PE X a (tV c Wx f)) (hb : PE X (.BoolOp .Or (b :: rest) pos) (tV c Wx g)) :
    PE X (.BoolOp .Or (a :: b :: rest) pos) (tV c Wx fun e => (f e).bind fun (x, e1) => (boolD x).bind fun k => if k = true then .ok (.bool true, e1) else g e1) := by
  refine PE.imp (pe_or ha hb) fun σ H Q hq => ?_
  obtain ⟨G, e, ok, p⟩ := hq
  refine ⟨G, e, ok, (Post.bind (R := Rep) p).mono fun x H1 ⟨G1, d1, e1, st1, ok1, r1, p1⟩ => ?_⟩
  dsimp only at p1
  cases d1 with
  | bool k =>
    cases r1
    refine ⟨k, rfl, ?_⟩
    cases k with
    | false => exact ⟨G1, e1, ok1, p1⟩
    | true => exact p1 _ H1 G1 (.refl _ _ _) ok1 (.bl _)
  | _ => exact p1.elim
theorem t_and {rest : List Expr} (ha : PT X a (tB c Wx ft)) (hb : PW X (.BoolOp .And (b :: rest) pos) (tB c Wx gt)) :
    PW X (.BoolOp .And (a :: b :: rest) pos) (tB c Wx fun e => (ft e).bind fun (k, e1) => if k = true then gt e1 else .ok (false, e1)) := by
  refine PW.imp (pw_and ha hb) fun σ H Q hq => ?_
  obtain ⟨G, e, ok, p⟩ := hq
  refine ⟨G, e, ok, (Post.bind (R := RB Bool) p).mono fun x H1 ⟨G1, d1, e1, st1, ok1, r1, p1⟩ => ?_⟩
  subst r1
  cases x with
  | true => exact ⟨G1, e1, ok1, p1⟩
  | false => exact p1 _ H1 G1 (.refl _ _ _) ok1 rfl
theorem t_or {rest : List Expr} (ha : PT X a (tB c Wx ft)) (hb : PW X (.BoolOp .Or (b :: rest) pos) (tB c Wx gt)) :
    PW X (.BoolOp .Or (a :: b :: rest) pos) (tB c Wx fun e => (ft e).bind fun (k, e1) => if k = true then .ok (true, e1) else gt e1) := by
  refine PW.imp (pw_or ha hb) fun σ H Q hq => ?_
  obtain ⟨G, e, ok, p⟩ := hq
  refine ⟨G, e, ok, (Post.bind (R := RB Bool) p).mono fun x H1 ⟨G1, d1, e1, st1, ok1, r1, p1⟩ => ?_⟩
  subst r1
  cases x with
  | false => exact ⟨G1, e1, ok1, p1⟩
  | true => exact p1 _ H1 G1 (.refl _ _ _) ok1 rfl
theorem s_ite (hc : PT X a (tB c Wx ft)) (hb : PE X b (tV c Wx f)) (hd : PE X d (tV c Wx g)) :
    PE X (.IfExp a b d pos) (tV c Wx fun e => (ft e).bind fun (k, e1) => if k = true then f e1 else g e1) := by
  refine PE.imp (pe_ifExp hc hb hd) fun σ H Q hq => ?_
  obtain ⟨G, e, ok, p⟩ := hq
  refine ⟨G, e, ok, (Post.bind (R := RB Bool) p).mono fun x H1 ⟨G1, d1, e1, st1, ok1, r1, p1⟩ => ?_⟩
  subst r1
  cases x with
  | false => exact ⟨G1, e1, ok1, p1⟩
  | true => exact ⟨G1, e1, ok1, p1⟩
theorem pt_ifExp {tA tb' td : TT} (hc : PT X a tA) (hb : PT X b tb') (hd : PT X d td) : PT X (.IfExp a b d pos) (fun σ H Q => tA σ H fun k H1 => if k = true then tb' σ H1 Q else td σ H1 Q) := by
  refine ⟨fun pins s σ H Q I hw => ?_⟩
  show wpAny _ _ (do if ← isTrue a X.env (eval a X.env) then isTrue b X.env (eval b X.env) else isTrue d X.env (eval d X.env)) _ _ s
  refine wpAny_bind (thn (hc.run pins s σ H _ I hw) fun k s1 ⟨H1, I1, q1⟩ => ?_)
  cases k with
  | true => exact hb.run pins s1 σ H1 Q I1 q1
  | false => exact hd.run pins s1 σ H1 Q I1 q1
theorem t_ite (hc : PT X a (tB c Wx ft)) (hb : PT X b (tB c Wx gt)) (hd : PT X d (tB c Wx ht)) :
    PT X (.IfExp a b d pos) (tB c Wx fun e => (ft e).bind fun (k, e1) => if k = true then gt e1 else ht e1) := by
  refine PT.imp (pt_ifExp hc hb hd) fun σ H Q hq => ?_
  obtain ⟨G, e, ok, p⟩ := hq
  refine ⟨G, e, ok, (Post.bind (R := RB Bool) p).mono fun x H1 ⟨G1, d1, e1, st1, ok1, r1, p1⟩ => ?_⟩
  subst r1
  cases x with
  | false => exact ⟨G1, e1, ok1, p1⟩
  | true => exact ⟨G1, e1, ok1, p1⟩
/-! comparisons -/
theorem t_cmp {op : CmpOp} {k : D → D → Out D} (ho : OpR X (compareOp op) (rD2 c.K k)) (ne : ∀ x y m, k x y ≠ .err m) (ha : PE X a (tV c Wx f)) (hb : PE X b (tV c Wx g)) (hm : behindInMarks op b = false) :
    PT X (.Compare a [op] [b] pos) (tB c Wx fun e => (f e).bind fun (x, e1) => (g e1).bind fun (y, e2) => (k x y).bind fun z => (boolD z).at e2) := by
  refine PT.imp (pt_cmpR ho ha hb hm) fun σ H Q hq => ?_
  obtain ⟨G, e, ok, p⟩ := hq
  refine ⟨G, e, ok, (Post.bind (R := Rep) p).mono fun x H1 ⟨G1, d1, e1, st1, ok1, r1, p1⟩ => ⟨G1, e1, ok1, (Post.bind (R := Rep) p1).mono fun y H2 ⟨G2, d2, e2, st2, ok2, r2, p2⟩ => ?_⟩⟩
  dsimp only at p2
  cases q : k d1 d2 with
  | ok r =>
    rw [q] at p2
    dsimp only [Out.bind] at p2
    refine ⟨c.wd G2, d1, d2, r, rfl, ok2.zl, st2.rep ok1.zl r1, r2, q, fun v H' sm rr => ?_⟩
    cases r with
    | bool t => cases rr; exact ⟨t, rfl, p2 t H' G2 (.of_ext (.of sm)) (ok2.same sm) rfl⟩
    | _ => exact p2.elim
  | err x => exact (ne _ _ _ q).elim
  | bad => rw [q] at p2; exact p2.elim
theorem s_chain {op op' : CmpOp} {k k' : D → D → Out D} (ho : OpR X (compareOp op) (rD2 c.K k)) (ho' : OpR X (compareOp op') (rD2 c.K k')) (ne : ∀ x y m, k x y ≠ .err m) (ne' : ∀ x y m, k' x y ≠ .err m)
    (ha : PE X a (tV c Wx f)) (hb : PE X b (tV c Wx g)) (hd : PE X d (tV c Wx h)) (hm : lastMarks [op, op'] [b, d] = false) :
    PE X (.Compare a [op, op'] [b, d] pos) (tV c Wx fun e => (f e).bind fun (x, e1) => (g e1).bind fun (y, e2) => (k x y).bind fun z => (boolD z).bind fun t =>
      if t = true then (h e2).bind fun (z, e3) => (k' y z).at e3 else .ok (.bool false, e2)) := by
  refine PE.imp (pe_chain ho ho' ha hb hd hm) fun σ H Q hq => ?_
  obtain ⟨G, e, ok, p⟩ := hq
  refine ⟨G, e, ok, (Post.bind (R := Rep) p).mono fun x H1 ⟨G1, d1, e1, st1, ok1, r1, p1⟩ => ⟨G1, e1, ok1, (Post.bind (R := Rep) p1).mono fun y H2 ⟨G2, d2, e2, st2, ok2, r2, p2⟩ => ?_⟩⟩
  dsimp only at p2
  cases q : k d1 d2 with
  | ok r =>
    rw [q] at p2
    dsimp only [Out.bind] at p2
    refine ⟨c.wd G2, d1, d2, r, rfl, ok2.zl, st2.rep ok1.zl r1, r2, q, fun v H' sm rr => ?_⟩
    cases r with
    | bool t =>
      cases rr
      refine ⟨t, rfl, ?_⟩
      cases t with
      | false => exact p2 _ H' G2 (.of_ext (.of sm)) (ok2.same sm) (.bl _)
      | true =>
        refine ⟨G2, e2, ok2.same sm, ?_⟩
        dsimp only [boolD, Out.bind, if_true] at p2
        have p3 : Post Rep c Wx G2 σ H' ((h e2).bind fun (z, e3) => (k' d2 z).at e3) Q := by
          revert p2
          show Post Rep c Wx G2 σ H2 ((h e2).bind fun (z, e3) => (k' d2 z).at e3) Q → _
          cases ((h e2).bind fun (z, e3) => (k' d2 z).at e3) with
          | ok p => obtain ⟨d, e⟩ := p; exact fun p2 v H'' G' st ok r => p2 v H'' G' ((Step.of_ext (.of sm)).trans st) ok r
          | err x => exact fun p2 => p2
          | bad => exact fun p2 => p2
        refine (Post.bind (R := Rep) p3).mono fun z H3 ⟨G3, d3, e3, st3, ok3, r3, p4⟩ => ?_
        dsimp only at p4
        cases q' : k' d2 d3 with
        | ok r' =>
          rw [q'] at p4
          exact ⟨c.wd G3, d2, d3, r', rfl, ok3.zl, st3.rep (ok2.same sm).zl (r2.ext ok2.zl (.of sm)), r3, q', fun v H' sm rr => p4 v H' G3 (.of_ext (.of sm)) (ok3.same sm) rr⟩
        | err x => exact (ne' _ _ _ q').elim
        | bad => rw [q'] at p4; exact p4.elim
    | _ => exact p2.elim
  | err x => exact (ne _ _ _ q).elim
  | bad => rw [q] at p2; exact p2.elim
end
end DV
set_option Elab.async false
set_option linter.all false
set_option maxRecDepth 100000
set_option maxHeartbeats 4000000
/-! Rules for expressions, further. -/
namespace DV
open PySem PySem.Spec PyProof.Rows L2

section
variable {X : Cx} {c : Ctx} {Wx : WX} {a b d : Expr} {es : List Expr} {f g h : En → Out (D × En)} {fs : En → Out (List D × En)} {pos : Pos}
theorem Post.re {s t : Type} {R : Wd → Hp → t → s → Prop} {G G1 : Gh} {σ : L2.St} {H H1 : Hp} {r : Out (s × En)} {Q : t → Hp → Prop} (p : Post R c Wx G σ H r Q) (st : Step c G H G1 H1) : Post R c Wx G1 σ H1 r Q := by
  cases r with
  | ok p' => obtain ⟨d, e⟩ := p'; exact fun v H' G' a b r => p v H' G' (st.trans a) b r
  | err x => exact p
  | bad => exact p
theorem t_chain {op op' : CmpOp} {k k' : D → D → Out D} (ho : OpR X (compareOp op) (rD2 c.K k)) (ho' : OpR X (compareOp op') (rD2 c.K k')) (ne : ∀ x y m, k x y ≠ .err m) (ne' : ∀ x y m, k' x y ≠ .err m)
    (ha : PE X a (tV c Wx f)) (hb : PE X b (tV c Wx g)) (hd : PE X d (tV c Wx h)) (hm : lastMarks [op, op'] [b, d] = false) :
    PT X (.Compare a [op, op'] [b, d] pos) (tB c Wx fun e => (f e).bind fun (x, e1) => (g e1).bind fun (y, e2) => (k x y).bind fun z => (boolD z).bind fun t =>
      if t = true then (h e2).bind fun (z, e3) => (k' y z).bind fun z => (boolD z).at e3 else .ok (false, e2)) := by
  refine PT.imp (pt_chain ho ho' ha hb hd hm) fun σ H Q hq => ?_
  obtain ⟨G, e, ok, p⟩ := hq
  refine ⟨G, e, ok, (Post.bind (R := Rep) p).mono fun x H1 ⟨G1, d1, e1, st1, ok1, r1, p1⟩ => ⟨G1, e1, ok1, (Post.bind (R := Rep) p1).mono fun y H2 ⟨G2, d2, e2, st2, ok2, r2, p2⟩ => ?_⟩⟩
  dsimp only at p2
  cases q : k d1 d2 with
  | ok r =>
    rw [q] at p2
    dsimp only [Out.bind] at p2
    refine ⟨c.wd G2, d1, d2, r, rfl, ok2.zl, st2.rep ok1.zl r1, r2, q, fun v H' sm rr => ?_⟩
    cases r with
    | bool t =>
      cases rr
      refine ⟨t, rfl, ?_⟩
      cases t with
      | false => exact ⟨false, rfl, p2 _ H' G2 (.of_ext (.of sm)) (ok2.same sm) rfl⟩
      | true =>
        refine ⟨G2, e2, ok2.same sm, ?_⟩
        dsimp only [boolD, Out.bind, if_true] at p2
        have p3 : Post (RB Bool) c Wx G2 σ H' ((h e2).bind fun (z, e3) => (k' d2 z).bind fun z => (boolD z).at e3) Q := Post.re (c := c) (G := G2) (H := H2) (by exact p2) (Step.of_ext (.of sm))
        refine (Post.bind (R := Rep) p3).mono fun z H3 ⟨G3, d3, e3, st3, ok3, r3, p4⟩ => ?_
        dsimp only at p4
        cases q' : k' d2 d3 with
        | ok r' =>
          rw [q'] at p4
          dsimp only [Out.bind] at p4
          refine ⟨c.wd G3, d2, d3, r', rfl, ok3.zl, st3.rep (ok2.same sm).zl (r2.ext ok2.zl (.of sm)), r3, q', fun v H' sm rr => ?_⟩
          cases r' with
          | bool t => cases rr; exact ⟨t, rfl, p4 t H' G3 (.of_ext (.of sm)) (ok3.same sm) rfl⟩
          | _ => exact p4.elim
        | err x => exact (ne' _ _ _ q').elim
        | bad => rw [q'] at p4; exact p4.elim
    | _ => exact p2.elim
  | err x => exact (ne _ _ _ q).elim
  | bad => rw [q] at p2; exact p2.elim

/-! arguments, displays -/
theorem a_nil : PA X [] (tAs c Wx fun e => .ok ([], e)) := PA.imp pa_nil fun σ H Q hq => by
  obtain ⟨G, e, ok, p⟩ := hq
  exact p _ H G (.refl _ _ _) ok .nil
theorem a_cons (hs : noStar a = true) (ha : PE X a (tV c Wx f)) (hr : PA X es (tAs c Wx fs)) : PA X (a :: es) (tAs c Wx fun e => (f e).bind fun (x, e1) => (fs e1).bind fun (xs, e2) => .ok (x :: xs, e2)) := by
  refine PA.imp (pa_cons ha hr (star_cons hs)) fun σ H Q hq => ?_
  obtain ⟨G, e, ok, p⟩ := hq
  refine ⟨G, e, ok, (Post.bind (R := Rep) p).mono fun x H1 ⟨G1, d1, e1, st1, ok1, r1, p1⟩ => ⟨G1, e1, ok1, (Post.bind (R := Reps) p1).mono fun xs H2 ⟨G2, d2, e2, st2, ok2, r2, p2⟩ => ?_⟩⟩
  exact p2 _ H2 G2 (.refl _ _ _) ok2 (.cons (st2.rep ok1.zl r1) r2)
theorem s_tup {k1 : Nat} (h : PA X es (tAs c Wx fs)) : PE X (.Tuple es k1 pos) (tV c Wx fun e => (fs e).bind fun (xs, e1) => if xs.length ≤ 16777216 then .ok (.tuple xs, e1) else .bad) := by
  refine PE.imp (pe_tup h) fun σ H Q hq => ?_
  obtain ⟨G, e, ok, p⟩ := hq
  refine ⟨G, e, ok, (Post.bind (R := Reps) p).mono fun x H1 ⟨G1, d1, e1, st1, ok1, r1, p1⟩ => ?_⟩
  dsimp only at p1
  split at p1
  · rename_i hl
    exact ⟨by rw [sz, r1.length]; exact hl, fun q hq => p1 _ _ G1 (.of_ext (.of (same_upd hq))) (ok1.same (same_upd hq)) (rep_tup ok1.zl hq r1)⟩
  · exact p1.elim
theorem s_lst (h : PA X es (tAs c Wx fs)) : PE X (.List es pos) (tV c Wx fun e => (fs e).bind fun (xs, e1) => if xs.length ≤ 16777216 then .ok (.list xs, e1) else .bad) := by
  refine PE.imp (pe_lst h) fun σ H Q hq => ?_
  obtain ⟨G, e, ok, p⟩ := hq
  refine ⟨G, e, ok, (Post.bind (R := Reps) p).mono fun x H1 ⟨G1, d1, e1, st1, ok1, r1, p1⟩ => ?_⟩
  dsimp only at p1
  split at p1
  · rename_i hl
    exact ⟨by rw [sz, r1.length]; exact hl, fun q hq => p1 _ _ G1 (.of_ext (.of (same_upd hq))) (ok1.same (same_upd hq)) (rep_lst ok1.zl hq r1)⟩
  · exact p1.elim

/-! subscripts -/
theorem ne_ix : ∀ x y m, ixD x y ≠ .err m := by
  intro x y m h
  unfold ixD at h
  repeat' (first | cases h | split at h)
theorem s_ix (hK : X.K = c.K) (hs : noSl b = true) (ha : PE X a (tV c Wx f)) (hb : PE X b (tV c Wx g)) : PE X (.Subscript a b pos) (tV c Wx fun e => (f e).bind fun (x, e1) => (g e1).bind fun (y, e2) => (ixD x y).at e2) :=
  s_op2 (by rw [hK]) ne_ix (pe_ix ix_all ha hb (noSl_ix hs))
theorem p_none : PO X none (tP c Wx fun e => .ok (none, e)) := PO.imp po_none fun σ H Q hq => by
  obtain ⟨G, e, ok, p⟩ := hq
  exact p _ H G (.refl _ _ _) ok rfl
theorem p_some (ha : PE X a (tV c Wx f)) : PO X (some a) (tP c Wx fun e => (f e).bind fun (x, e1) => (partD x).at e1) := by
  refine PO.imp (po_some ha) fun σ H Q hq => ?_
  obtain ⟨G, e, ok, p⟩ := hq
  refine ⟨G, e, ok, (Post.bind (R := Rep) p).mono fun x H1 ⟨G1, d1, e1, st1, ok1, r1, p1⟩ => ?_⟩
  dsimp only at p1
  cases d1 with
  | int i => cases r1; exact ⟨i, rfl, p1 _ H1 G1 (.refl _ _ _) ok1 rfl⟩
  | _ => exact p1.elim
theorem ne_slice : ∀ x lo hi m, sliceD x lo hi ≠ .err m := by
  intro x lo hi m h
  unfold sliceD at h
  repeat' (first | cases h | split at h)
theorem s_sl {lo hi : Option Expr} {fl fh : En → Out (Option Int × En)} {p2 : Pos} (hK : X.K = c.K) (ha : PE X a (tV c Wx f)) (hl : PO X lo (tP c Wx fl)) (hh : PO X hi (tP c Wx fh)) :
    PE X (.Subscript a (.Slice lo hi none p2) pos) (tV c Wx fun e => (f e).bind fun (x, e1) => (fl e1).bind fun (l, e2) => (fh e2).bind fun (u, e3) => (sliceD x l u).at e3) := by
  refine PE.imp (pe_slice sl_all ha hl hh) fun σ H Q hq => ?_
  obtain ⟨G, e, ok, p⟩ := hq
  refine ⟨G, e, ok, (Post.bind (R := Rep) p).mono fun x H1 ⟨G1, d1, e1, st1, ok1, r1, p1⟩ => ⟨G1, e1, ok1, (Post.bind (R := RB (Option Int)) p1).mono fun l H2 ⟨G2, d2, e2, st2, ok2, r2, p2⟩ =>
    ⟨G2, e2, ok2, (Post.bind (R := RB (Option Int)) p2).mono fun u H3 ⟨G3, d3, e3, st3, ok3, r3, p3⟩ => ?_⟩⟩⟩
  subst r2 r3
  dsimp only at p3
  cases q : sliceD d1 l u with
  | ok r =>
    rw [q] at p3
    exact ⟨c.wd G3, d1, r, hK.symm, ok3.zl, st3.rep ok2.zl (st2.rep ok1.zl r1), q, fun v H' sm rr => p3 v H' G3 (.of_ext (.of sm)) (ok3.same sm) rr⟩
  | err m => exact (ne_slice _ _ _ _ q).elim
  | bad => rw [q] at p3; exact p3.elim

/-! built-in functions -/
theorem s_biB {k : List D → Out D} {x id : Str} {p : Pos} {nm : String} (ho : CallR X (.builtin nm) (rDs c.K k)) (ne : ∀ x m, k x ≠ .err m) (hg : Gl X x) (hm : X.mg x = none) (hv : bootBuiltins x = some (.builtin nm)) (hn : x ≠ "__name__") (hdb : (x == ("__debug__" : Str)) = false)
    (hs : noStar a = true) (hss : es.all noStar = true) (h : PA X (a :: es) (tAs c Wx fs)) : PE X (.Call (.Name x p) (a :: es) [] pos) (tV c Wx fun e => (fs e).bind fun (xs, e1) => (k xs).at e1) := by
  refine PE.imp (pe_callB ho hg hm hv h hn hdb (star_cons hs) (star_all hss)) fun σ H Q hq => ?_
  obtain ⟨G, e, ok, p⟩ := hq
  refine ⟨G, e, ok, (Post.bind (R := Reps) p).mono fun x H1 ⟨G1, d1, e1, st1, ok1, r1, p1⟩ => ?_⟩
  dsimp only at p1
  cases q : k d1 with
  | ok r =>
    rw [q] at p1
    exact ⟨c.wd G1, d1, r, rfl, ok1.zl, r1, q, fun v H' sm rr => p1 v H' G1 (.of_ext (.of sm)) (ok1.same sm) rr⟩
  | err m => exact (ne _ _ q).elim
  | bad => rw [q] at p1; exact p1.elim
theorem s_biT {k : List D → Out D} {x id : Str} {p : Pos} {nm : String} (ho : CallR X (.type nm) (rDs c.K k)) (ne : ∀ x m, k x ≠ .err m) (hg : Gl X x) (hm : X.mg x = none) (hv : bootBuiltins x = some (.type nm)) (hn : x ≠ "__name__") (hdb : (x == ("__debug__" : Str)) = false)
    (hs : noStar a = true) (hss : es.all noStar = true) (h : PA X (a :: es) (tAs c Wx fs)) : PE X (.Call (.Name x p) (a :: es) [] pos) (tV c Wx fun e => (fs e).bind fun (xs, e1) => (k xs).at e1) := by
  refine PE.imp (pe_callTy ho hg hm hv h hn hdb (star_cons hs) (star_all hss)) fun σ H Q hq => ?_
  obtain ⟨G, e, ok, p⟩ := hq
  refine ⟨G, e, ok, (Post.bind (R := Reps) p).mono fun x H1 ⟨G1, d1, e1, st1, ok1, r1, p1⟩ => ?_⟩
  dsimp only at p1
  cases q : k d1 with
  | ok r =>
    rw [q] at p1
    exact ⟨c.wd G1, d1, r, rfl, ok1.zl, r1, q, fun v H' sm rr => p1 v H' G1 (.of_ext (.of sm)) (ok1.same sm) rr⟩
  | err m => exact (ne _ _ q).elim
  | bad => rw [q] at p1; exact p1.elim
theorem ne_isi {T : String} : ∀ x m, isiD T x ≠ .err m := by
  intro x m h
  unfold isiD at h
  repeat' (first | cases h | split at h)
theorem s_isi {T : String} {p p2 : Pos} {t : Str} (hK : X.K = c.K) (hg : Gl X "isinstance") (hm : X.mg "isinstance" = none) (hgt : Gl X t) (hmt : X.mg t = none) (hvt : bootBuiltins t = some (.type T)) (hnt : t ≠ "__name__") (hdt : (t == ("__debug__" : Str)) = false)
    (hs : noStar a = true) (ha : PE X a (tV c Wx f)) : PE X (.Call (.Name "isinstance" p) [a, .Name t p2] [] pos) (tV c Wx fun e => (f e).bind fun (x, e1) => (isiD T [x]).at e1) := by
  have hv : bootBuiltins "isinstance" = some (.builtin "isinstance") := PyProof.Rows.boot_isinstance
  refine PE.imp (pe_callB (cr_isi T) hg hm hv (pa_cons ha (pa_cons (pe_bltn (v := .ty T) hgt hmt hvt rfl hnt hdt) pa_nil) (star_cons hs)) (by decide) (by decide) (star_cons hs) (star_all rfl)) fun σ H Q hq => ?_
  obtain ⟨G, e, ok, p⟩ := hq
  refine ⟨G, e, ok, (Post.bind (R := Rep) p).mono fun x H1 ⟨G1, d1, e1, st1, ok1, r1, p1⟩ => ?_⟩
  dsimp only at p1
  cases q : isiD T [d1] with
  | ok r =>
    rw [q] at p1
    exact ⟨c.wd G1, x, d1, r, rfl, hK.symm, ok1.zl, r1, q, fun v H' sm rr => p1 v H' G1 (.of_ext (.of sm)) (ok1.same sm) rr⟩
  | err m => exact (ne_isi _ _ q).elim
  | bad => rw [q] at p1; exact p1.elim
end
end DV
set_option Elab.async false
set_option linter.all false
set_option maxRecDepth 100000
set_option maxHeartbeats 4000000
/-! What defs promise; calls; own lists read. -/
namespace DV
open PySem PySem.Spec PyProof.Rows L2

/-- a def that answers f of its arguments, or raises what f tells -/
def spD (K : PySem.W.Frag) (mg : Str → Option Value) (T : List (Addr × Str)) (f : List D → Out D) : Sp := fun vs H Q E => ∃ (W : Wd) (ds : List D), W.K = K ∧ LamX.Tabs T H ∧ ZL W.Z H ∧ Reps W H vs ds ∧ (match f ds with
  | .ok d => ∀ v H', Ext H H' → LamX.Tabs T H' → Rep W H' v d → Q v H'
  | .err x => ∀ C H', mg x = some (.ref C) → Ext H H' → LamX.Tabs T H' → E (.ref C) none H'
  | .bad => False)
/-- one that answers a new list -/
def spF (K : PySem.W.Frag) (mg : Str → Option Value) (T : List (Addr × Str)) (f : List D → Out (List D)) : Sp := fun vs H Q E => ∃ (W : Wd) (ds : List D), W.K = K ∧ LamX.Tabs T H ∧ ZL W.Z H ∧ Reps W H vs ds ∧ (match f ds with
  | .ok d => ∀ a H' xs, (∀ o, H a = some o → isTbl o) → Ext H H' → LamX.Tabs T H' → H' a = some (.lst xs) → Reps ⟨W.K, fun b => W.Z b ∨ b = a, W.O⟩ H' xs d → Q (.ref a) H'
  | .err x => ∀ C H', mg x = some (.ref C) → Ext H H' → LamX.Tabs T H' → E (.ref C) none H'
  | .bad => False)
/-- all but the list at a -/
def ExtB (a : Addr) (H H' : Hp) : Prop := ∀ b o, H b = some o → ¬ isTbl o → b ≠ a → H' b = some o
/-- one that changes the list that it gets first -/
def spB (K : PySem.W.Frag) (mg : Str → Option Value) (T : List (Addr × Str)) (f : List D → List D → Out (D × List D)) : Sp := fun vs H Q E => ∃ (W : Wd) (a : Addr) (ws : List V) (bg ds : List D) (xs : List V), W.K = K ∧ LamX.Tabs T H ∧ ZL W.Z H ∧ vs = .ref a :: ws ∧ W.Z a ∧ H a = some (.lst xs) ∧ Reps W H xs bg ∧ Reps W H ws ds ∧ (match f bg ds with
  | .ok (d, bg') => ∀ v H' xs', ExtB a H H' → LamX.Tabs T H' → H' a = some (.lst xs') → Reps W H' xs' bg' → Rep W H' v d → Q v H'
  | .err x => False
  | .bad => False)
/-- a def of the module that can be called: its name, what it promises -/
def CallOk0 (P : Program) (w : World) (K : PySem.W.Frag) (mg : Str → Option Value) (base : Heap) (k : Nat) (x : Str) (sp : Sp) : Prop := ∃ a fd ps, FnOk P w K mg base (L2N.CX P w) k a fd ps sp ∧ mg x = some (.ref a) ∧ PySem.W.keepIn K (.ref a) = true ∧ L2.Binds K fd ps []
abbrev CallOk (X : Cx) (k : Nat) (x : Str) (sp : Sp) : Prop := CallOk0 X.prog X.w X.K X.mg X.base k x sp
/-- .. as a def's entry has it -/
abbrev CallC (c : Gd) (k : Nat) (x : Str) (sp : Sp) : Prop := CallOk0 c.prog c.w c.K c.mg c.base k x sp

section
variable {X : Cx} {c : Ctx} {Wx : WX} {k : Nat} {a b d : Expr} {es : List Expr} {f g h : En → Out (D × En)} {fs : En → Out (List D × En)} {pos p : Pos} {x : Str}
theorem s_call {u : List D → Out D} (hK : X.K = c.K) (hmg : X.mg = c.mg) (tk : L2N.Takes X Wx) (hr : Room k X.A) (F : CallOk X k x (spD c.K c.mg c.T u)) (hg : Gl X x) (hdb : (x == ("__debug__" : Str)) = false) (hs : noStar a = true) (hss : es.all noStar = true)
    (h : PA X (a :: es) (tAs c Wx fs)) : PE X (.Call (.Name x p) (a :: es) [] pos) (tV c Wx fun e => (fs e).bind fun (xs, e1) => (u xs).at e1) := by
  obtain ⟨ad, fd, ps, F, m, kp, bn⟩ := F
  refine PE.imp (pe_callS F hr hg m kp bn (L2N.passAt tk) h hdb (star_cons hs) (star_all hss)) fun σ H Q hq => ?_
  obtain ⟨G, e, ok, p⟩ := hq
  refine ⟨G, e, ok, (Post.bind (R := Reps) p).mono fun x H1 ⟨G1, d1, e1, st1, ok1, r1, p1⟩ => ?_⟩
  dsimp only at p1
  refine ⟨c.wd G1, d1, rfl, ok1.fr.2, ok1.zl, r1, ?_⟩
  cases q : u d1 with
  | ok r => rw [q] at p1; exact fun v H' x t rr => p1 v H' G1 (.of_ext x) (ok1.ext x t) rr
  | err m => rw [q] at p1; exact fun C H' hm x t => p1 C H' hm (ok1.fr.ext x t)
  | bad => rw [q] at p1; exact p1
theorem s_callF {u : List D → Out (List D)} (hK : X.K = c.K) (hmg : X.mg = c.mg) (tk : L2N.Takes X Wx) (hr : Room k X.A) (F : CallOk X k x (spF c.K c.mg c.T u)) (hg : Gl X x) (hdb : (x == ("__debug__" : Str)) = false) (hs : noStar a = true) (hss : es.all noStar = true)
    (h : PA X (a :: es) (tAs c Wx fs)) : PE X (.Call (.Name x p) (a :: es) [] pos) (tV c Wx fun e => (fs e).bind fun (xs, e1) => ((u xs).map PyData.list).at e1) := by
  obtain ⟨ad, fd, ps, F, m, kp, bn⟩ := F
  refine PE.imp (pe_callS F hr hg m kp bn (L2N.passAt tk) h hdb (star_cons hs) (star_all hss)) fun σ H Q hq => ?_
  obtain ⟨G, e, ok, p⟩ := hq
  refine ⟨G, e, ok, (Post.bind (R := Reps) p).mono fun x H1 ⟨G1, d1, e1, st1, ok1, r1, p1⟩ => ?_⟩
  dsimp only at p1
  refine ⟨c.wd G1, d1, rfl, ok1.fr.2, ok1.zl, r1, ?_⟩
  cases q : u d1 with
  | ok r =>
    rw [q] at p1
    refine fun a H' xs hn x t e rr => p1 (.ref a) H' G1 (.of_ext x) (ok1.ext x t) (.lst (fun z => by obtain ⟨ys, q⟩ := ok1.zl a z; exact hn _ q) e ?_)
    refine Reps.keep (W := ⟨c.K, fun b => Zm c G1 b ∨ b = a, G1.O⟩) (W' := c.wd G1) rfl (fun b z => .inl (.inl z)) (fun _ _ h => h) (fun b z => ?_) (.refl _ _) rr
    rcases z with z | rfl
    · exact (x.zl ok1.zl) b z
    · exact ⟨xs, e⟩
  | err m => rw [q] at p1; exact fun C H' hm x t => p1 C H' hm (ok1.fr.ext x t)
  | bad => rw [q] at p1; exact p1

/-! the state behind a change of the own list in slot j -/
theorem own_get {G : Gh} {σ : L2.St} {H : Hp} {e : En} {j : Nat} {ds : List D} (ok : Ok c G σ H e) (h : e.getOwn j = .ok ds) : ∃ a vs, e.sl[j]? = some (.own ds) ∧ G.M[j]? = some (some a) ∧ σ[j]? = some (some (.ref a)) ∧ H a = some (.lst vs) ∧ Reps (c.wd G) H vs ds := by
  unfold En.getOwn at h
  split at h
  · rename_i ds' q
    cases h
    obtain ⟨m, x, h1, h2, a, vs, rfl, rfl, e3, r⟩ := ok.slot j _ q
    exact ⟨a, vs, q, h1, h2, e3, r⟩
  · cases h
theorem bag_get {G : Gh} {σ : L2.St} {H : Hp} {e : En} {j : Nat} {ds : List D} (ok : Ok c G σ H e) (h : e.getBag j = .ok ds) : ∃ a vs, e.sl[j]? = some (.bag ds) ∧ G.M[j]? = some (some a) ∧ σ[j]? = some (some (.ref a)) ∧ H a = some (.lst vs) ∧ Reps (c.wd G) H vs ds := by
  unfold En.getBag at h
  split at h
  · rename_i ds' q
    cases h
    obtain ⟨m, x, h1, h2, a, vs, rfl, rfl, e3, r⟩ := ok.slot j _ q
    exact ⟨a, vs, q, h1, h2, e3, r⟩
  · cases h
theorem mem_M {M : List (Option Addr)} {j : Nat} {a : Addr} (h : M[j]? = some (some a)) : some a ∈ M := List.mem_of_getElem? h
theorem ExtB.keep {a : Addr} {H H' : Hp} {Z : Addr → Prop} (x : ExtB a H H') (h : Z a) : Keep Z H H' := fun b o q d n => x b o q (nt_dat d) fun z => n (z ▸ h)
/-- the list at a, in slot j, holds other things now; all else stands. S, S': how the slot tells of it -/
theorem Ok.turn {G : Gh} {σ : L2.St} {H H' : Hp} {e : En} {j : Nat} {a : Addr} {vs' : List V} {S' : Slot} {S : Slot} (ok : Ok c G σ H e) (hj : e.sl[j]? = some S) (hM : G.M[j]? = some (some a)) (hσ : σ[j]? = some (some (.ref a))) (x : ExtB a H H') (ht : LamX.Tabs c.T H') (ha : H' a = some (.lst vs'))
    (r : slotOk (c.wd G) H' (some a) (some (.ref a)) S') (ho : ∀ ds', S' = .own ds' → ∃ ds, S = .own ds) (hbg : ∀ ds, S = .bag ds → ∃ ds', S' = .bag ds') : Ok c G σ H' (e.put j S') := by
  have za : Zm c G a := .inr (.inl (mem_M hM))
  have zl' : ZL (Zm c G) H' := fun b z => by
    by_cases hb : b = a
    · subst hb; exact ⟨_, ha⟩
    · obtain ⟨xs, q⟩ := ok.zl b z; exact ⟨xs, x b _ q (fun t => t) hb⟩
  have kp : Keep (Zm c G) H H' := x.keep za
  have rk : ∀ {v : V} {d : D}, Rep (c.wd G) H v d → Rep (c.wd G) H' v d := fun r => r.keep rfl (fun _ z => .inl z) (fun _ _ h => h) ok.zl kp
  have rks : ∀ {v : List V} {d : List D}, Reps (c.wd G) H v d → Reps (c.wd G) H' v d := fun r => r.keep rfl (fun _ z => .inl z) (fun _ _ h => h) ok.zl kp
  have hl : j < e.sl.length := (List.getElem?_eq_some_iff.mp hj).1
  refine ⟨by simpa [En.put] using ok.len, ok.lenM, fun i s q => ?_, ok.inj, ⟨fun b o q n nb => ?_, ht⟩, zl', ok.own, fun i ds b q hb => ?_, fun p hp => ⟨x p.1 _ (ok.pin p hp).1 (fun t => t) fun z => (ok.pin p hp).2 j (z ▸ hM), (ok.pin p hp).2⟩, fun b hb0 => ?_, fun n kk fs q => ?_⟩
  · have q : (e.sl.set j S')[i]? = some s := q
    by_cases hi : j = i
    · subst hi
      rw [List.getElem?_set_self hl] at q
      cases q
      exact ⟨_, _, hM, hσ, r⟩
    · rw [List.getElem?_set_ne hi] at q
      obtain ⟨m, y, h1, h2, h3⟩ := ok.slot i s q
      refine ⟨m, y, h1, h2, ?_⟩
      have ne : ∀ a', m = some a' → a' ≠ a := fun a' e z => by subst e z; exact hi (ok.inj j i a' hM h1)
      cases s with
      | no => exact h3
      | val d => obtain ⟨z, v, e1, r1⟩ := h3; exact ⟨z, v, e1, rk r1⟩
      | own d =>
        obtain ⟨a', vs, e0, e1, e3, r3⟩ := h3
        exact ⟨a', vs, e0, e1, x a' _ e3 (fun t => t) (ne a' e0), rks r3⟩
      | bag d =>
        obtain ⟨a', vs, e0, e1, e3, r3⟩ := h3
        exact ⟨a', vs, e0, e1, x a' _ e3 (fun t => t) (ne a' e0), rks r3⟩
  · by_cases hb : b = a
    · subst hb
      rcases ok.own j b hM with z | z
      · exact absurd z nb
      · exact absurd (z o q) n
    · exact x b o (ok.fr.1 b o q n nb) n hb
  · have q : (e.sl.set j S')[i]? = some (.own ds) := q
    by_cases hi : j = i
    · subst hi
      rw [List.getElem?_set_self hl] at q
      cases q
      obtain ⟨ds0, e0⟩ := ho ds rfl
      subst e0
      exact ok.mine j ds0 b hj hb
    · rw [List.getElem?_set_ne hi] at q
      exact ok.mine i ds b q hb
  · obtain ⟨b1, ds, b2⟩ := ok.arg b hb0
    obtain ⟨i0, b⟩ := b
    refine ⟨b1, ?_⟩
    show ∃ ds, (e.sl.set j S')[i0]? = some (.bag ds)
    by_cases h0 : j = i0
    · subst h0
      rw [hj] at b2; cases b2
      obtain ⟨ds', e'⟩ := hbg ds rfl
      exact ⟨ds', by rw [List.getElem?_set_self hl, e']⟩
    · exact ⟨ds, by rw [List.getElem?_set_ne h0]; exact b2⟩
  · obtain ⟨a', dx, vs, e1, e2, e3, e4⟩ := ok.obs n kk fs q
    refine ⟨a', dx, vs, e1, x a' _ e2 (fun t => t) fun z => ?_, e3, rks e4⟩
    subst z
    obtain ⟨xs, z⟩ := ok.zl a' za
    rw [e2] at z; cases z
theorem Step.turn {G : Gh} {H H' : Hp} {j : Nat} {a : Addr} (hM : G.M[j]? = some (some a)) (x : ExtB a H H') : Step c G H G H' := ⟨rfl, rfl, rfl, x.keep (.inr (.inl (mem_M hM)))⟩
theorem ne_noErr {s : Type} {r : Out s} {m : Str} : r.noErr ≠ .err m := by
  cases r <;> exact fun z => nomatch z
theorem any_get {G : Gh} {σ : L2.St} {H : Hp} {e : En} {j : Nat} {ds : List D} (ok : Ok c G σ H e) (h : e.getAny j = .ok ds) : ∃ a vs, (e.sl[j]? = some (.own ds) ∨ e.sl[j]? = some (.bag ds)) ∧ G.M[j]? = some (some a) ∧ σ[j]? = some (some (.ref a)) ∧ H a = some (.lst vs) ∧ Reps (c.wd G) H vs ds := by
  unfold En.getAny at h
  split at h
  · rename_i ds' q
    cases h
    obtain ⟨m, x, h1, h2, a, vs, rfl, rfl, e3, r⟩ := ok.slot j _ q
    exact ⟨a, vs, .inl q, h1, h2, e3, r⟩
  · rename_i ds' q
    cases h
    obtain ⟨m, x, h1, h2, a, vs, rfl, rfl, e3, r⟩ := ok.slot j _ q
    exact ⟨a, vs, .inr q, h1, h2, e3, r⟩
  · cases h

theorem any_ne {e : En} {i : Nat} {m : Str} : e.getAny i ≠ .err m := by
  unfold En.getAny; split <;> exact fun z => nomatch z
theorem put_own {e : En} {j : Nat} {ds es : List D} (h : e.sl[j]? = some (.own ds)) : e.putAny j es = e.put j (.own es) := by
  unfold En.putAny; rw [h]; rfl
theorem put_bag {e : En} {j : Nat} {ds es : List D} (h : e.sl[j]? = some (.bag ds)) : e.putAny j es = e.put j (.bag es) := by
  unfold En.putAny; rw [h]; rfl
/-- a call that changes the own list in slot j -/
theorem s_callB {u : List D → List D → Out (D × List D)} {j : Nat} {z : Str} {p2 : Pos} (hK : X.K = c.K) (hmg : X.mg = c.mg) (tk : L2N.Takes X Wx) (hr : Room k X.A) (F : CallOk X k x (spB c.K c.mg c.T u)) (hg : Gl X x) (hdb : (x == ("__debug__" : Str)) = false) (hss : es.all noStar = true)
    (hz : PE X (.Name z p2) (tVar j)) (h : PA X es (tAs c Wx fs)) :
    PE X (.Call (.Name x p) (.Name z p2 :: es) [] pos) (tV c Wx fun e => (e.getAny j).bind fun _ => (fs e).bind fun (xs, e1) => (e1.getAny j).bind fun bg => (u bg xs).noErr.bind fun (r, bg') => .ok (r, e1.putAny j bg')) := by
  obtain ⟨ad, fd, ps, F, m, kp, bn⟩ := F
  have ha : PA X (.Name z p2 :: es) (tCons (tVar j) (tAs c Wx fs)) := pa_cons hz h (star_cons rfl)
  refine PE.imp (pe_callS F hr hg m kp bn (L2N.passAt tk) ha hdb (star_cons rfl) (star_all hss)) fun σ H Q hq => ?_
  obtain ⟨G, e, ok, p⟩ := hq
  dsimp only at p
  cases qb : e.getAny j with
  | err m => exact (any_ne qb).elim
  | bad => rw [qb] at p; exact p.elim
  | ok bg0 =>
    rw [qb] at p
    obtain ⟨a, vs0, q1, q2, q3, q4, q5⟩ := any_get ok qb
    refine ⟨_, q3, G, e, ok, (Post.bind (R := Reps) p).mono fun x H1 ⟨G1, d1, e1, st1, ok1, r1, p1⟩ => ?_⟩
    dsimp only at p1
    cases qc : e1.getAny j with
    | err m => exact (any_ne qc).elim
    | bad => rw [qc] at p1; exact p1.elim
    | ok bg =>
      rw [qc] at p1
      dsimp only [Out.bind] at p1
      obtain ⟨a', vs, g1, g2, g3, g4, g5⟩ := any_get ok1 qc
      rw [q3] at g3; cases g3
      refine ⟨c.wd G1, a, x, bg, d1, vs, rfl, ok1.fr.2, ok1.zl, rfl, .inr (.inl (mem_M g2)), g4, g5, r1, ?_⟩
      cases qu : u bg d1 with
      | ok pr =>
        obtain ⟨r, bg'⟩ := pr
        rw [qu] at p1
        rcases g1 with g1 | g1
        · dsimp only [Out.noErr] at p1
          rw [put_own g1] at p1
          exact fun v H' xs' x t ha rb rr => p1 v H' G1 (.turn g2 x) (ok1.turn g1 g2 q3 x t ha ⟨a, xs', rfl, rfl, ha, rb⟩ (fun _ _ => ⟨_, rfl⟩) fun _ z => nomatch z) rr
        · dsimp only [Out.noErr] at p1
          rw [put_bag g1] at p1
          exact fun v H' xs' x t ha rb rr => p1 v H' G1 (.turn g2 x) (ok1.turn g1 g2 q3 x t ha ⟨a, xs', rfl, rfl, ha, rb⟩ (fun _ z => nomatch z) fun _ _ => ⟨_, rfl⟩) rr
      | err m => rw [qu] at p1; exact p1.elim
      | bad => rw [qu] at p1; exact p1.elim

/-! own lists read -/
theorem eqv_nil (ds : List D) : PyData.eqv (.list ds) (.list []) = ds.isEmpty := by
  cases ds <;> simp [PyData.eqv, PyData.eqvAll]
/-- the comparison's reading: an own list, a new empty one -/
theorem own_cmp {i : Nat} {neg : Bool} {σ : L2.St} {H : Hp} {G : Gh} {e : En} {ds : List D} (ok : Ok c G σ H e) (hK : X.K = c.K) (q : e.getAny i = .ok ds) (hs : SeqAt.shaped (.list ds) = true) (Q : VK) (hQ : ∀ H', Same H H' → Q (.bl (neg != ds.isEmpty)) H') :
    tOp (if neg then rNeD X.K else rEqD X.K) (tVar i) (tLst tNil) σ H Q := by
  obtain ⟨a, vs, q1, q2, q3, q4, q5⟩ := any_get ok q
  refine ⟨_, q3, by rw [sz]; decide, fun p hp => ?_⟩
  have d1 : Dp X.K (upd H p (.lst [])) (.ref a) (.list ds) := by
    refine .lst (xs := vs) (.inl (.inl ?_)) ?_
    · rw [upd_ne (ne_of_none q4 hp)]; exact q4
    · rw [hK]
      exact (q5.same ok.zl (same_upd hp)).dp (by have := SeqAt.canLay_of_shaped hs; simpa only [PyData.canLay0] using this)
  have d2 : Dp X.K (upd H p (.lst [])) (.ref p) (.list []) := .lst (.inl (.inl upd_same)) .nil
  have hQ := hQ _ (same_upd (o := .lst []) hp)
  rw [← eqv_nil] at hQ
  cases neg with
  | true => rw [bne_t] at hQ; exact ⟨_, _, d1, d2, hs, by decide, hQ⟩
  | false => rw [bne_f] at hQ; exact ⟨_, _, d1, d2, hs, by decide, hQ⟩
theorem or_nil {neg : Bool} (hu : X.A.units + 64 < cLine) : OpR X (compareOp (if neg then CmpOp.NotEq else CmpOp.Eq)) (if neg then rNeD X.K else rEqD X.K) := by
  cases neg with
  | true => exact op_neD hu
  | false => exact op_eqD hu
theorem mk_nil {neg : Bool} {b : Expr} : behindInMarks (if neg then CmpOp.NotEq else CmpOp.Eq) b = false := by
  cases neg <;> exact nomark b
theorem s_ownNil {i : Nat} {z : Str} {p2 p3 : Pos} {op : CmpOp} {neg : Bool} (hop : op = if neg then CmpOp.NotEq else CmpOp.Eq) (hu : X.A.units + 64 < cLine) (hK : X.K = c.K) (hz : PE X (.Name z p2) (tVar i)) :
    PE X (.Compare (.Name z p2) [op] [.List [] p3] pos) (tV c Wx fun e => (e.getAny i).bind fun ds => if SeqAt.shaped (.list ds) = true then .ok (.bool (neg != ds.isEmpty), e) else .bad) := by
  subst hop
  refine PE.imp (pe_cmpR (or_nil hu) hz (pe_lst pa_nil) mk_nil) fun σ H Q hq => ?_
  obtain ⟨G, e, ok, p⟩ := hq
  dsimp only at p
  cases q : e.getAny i with
  | err m => exact (any_ne q).elim
  | bad => rw [q] at p; exact p.elim
  | ok ds =>
    rw [q] at p
    dsimp only [Out.bind] at p
    split at p
    · rename_i hs
      exact own_cmp ok hK q hs Q fun H' sm => p _ H' G (.of_ext (.of sm)) (ok.same sm) (.bl _)
    · exact p.elim
theorem t_ownNil {i : Nat} {z : Str} {p2 p3 : Pos} {op : CmpOp} {neg : Bool} (hop : op = if neg then CmpOp.NotEq else CmpOp.Eq) (hu : X.A.units + 64 < cLine) (hK : X.K = c.K) (hz : PE X (.Name z p2) (tVar i)) :
    PT X (.Compare (.Name z p2) [op] [.List [] p3] pos) (tB c Wx fun e => (e.getAny i).bind fun ds => if SeqAt.shaped (.list ds) = true then .ok (neg != ds.isEmpty, e) else .bad) := by
  subst hop
  refine PT.imp (pt_cmpR (or_nil hu) hz (pe_lst pa_nil) mk_nil) fun σ H Q hq => ?_
  obtain ⟨G, e, ok, p⟩ := hq
  dsimp only at p
  cases q : e.getAny i with
  | err m => exact (any_ne q).elim
  | bad => rw [q] at p; exact p.elim
  | ok ds =>
    rw [q] at p
    dsimp only [Out.bind] at p
    split at p
    · rename_i hs
      exact own_cmp ok hK q hs _ fun H' sm => ⟨_, rfl, p _ H' G (.of_ext (.of sm)) (ok.same sm) rfl⟩
    · exact p.elim
theorem s_ownLen {i : Nat} {z : Str} {p1 p2 : Pos} (hg : Gl X "len") (hm : X.mg "len" = none) (hz : PE X (.Name z p2) (tVar i)) :
    PE X (.Call (.Name "len" p1) [.Name z p2] [] pos) (tV c Wx fun e => (e.getAny i).bind fun ds => .ok (.int ds.length, e)) := by
  refine PE.imp (pe_callB call_len hg hm boot_len (pa_cons hz pa_nil)) fun σ H Q hq => ?_
  obtain ⟨G, e, ok, p⟩ := hq
  dsimp only at p
  cases q : e.getAny i with
  | err m => exact (any_ne q).elim
  | bad => rw [q] at p; exact p.elim
  | ok ds =>
    rw [q] at p
    obtain ⟨a, vs, q1, q2, q3, q4, q5⟩ := any_get ok q
    exact ⟨_, q3, _, _, rfl, .inl ⟨vs, .inl (.inl q4), q5.length.symm⟩, p _ H G (.refl _ _ _) ok (.int _)⟩
theorem s_ownIx {i : Nat} {z : Str} {p2 : Pos} (hs : noSl b = true) (hz : PE X (.Name z p2) (tVar i)) (hb : PE X b (tV c Wx f)) :
    PE X (.Subscript (.Name z p2) b pos) (tV c Wx fun e => (e.getAny i).bind fun _ => (f e).bind fun (y, e1) => (e1.getAny i).bind fun ds => (ixD (.list ds) y).at e1) := by
  refine PE.imp (pe_ix ix_list hz hb (noSl_ix hs)) fun σ H Q hq => ?_
  obtain ⟨G, e, ok, p⟩ := hq
  dsimp only at p
  cases q : e.getAny i with
  | err m => exact (any_ne q).elim
  | bad => rw [q] at p; exact p.elim
  | ok ds0 =>
    rw [q] at p
    dsimp only [Out.bind] at p
    obtain ⟨a, vs0, q1, q2, q3, q4, q5⟩ := any_get ok q
    refine ⟨_, q3, G, e, ok, (Post.bind (R := Rep) p).mono fun x H1 ⟨G1, d1, e1, st1, ok1, r1, p1⟩ => ?_⟩
    dsimp only at p1
    cases qc : e1.getAny i with
    | err m => exact (any_ne qc).elim
    | bad => rw [qc] at p1; exact p1.elim
    | ok ds =>
      rw [qc] at p1
      dsimp only [Out.bind] at p1
      obtain ⟨a', vs, g1, g2, g3, g4, g5⟩ := any_get ok1 qc
      rw [q3] at g3; cases g3
      cases qi : ixD (.list ds) d1 with
      | err m => exact (ne_ix _ _ _ qi).elim
      | bad => rw [qi] at p1; exact p1.elim
      | ok r =>
        rw [qi] at p1
        cases d1 with
        | int n =>
          cases r1
          dsimp only [ixD] at qi
          split at qi
          · rename_i hd; cases qi
            obtain ⟨w, w1, w2⟩ := g5.atI hd
            exact ⟨_, _, _, _, rfl, rfl, .inl (.inl g4), w1, p1 _ H1 G1 (.refl _ _ _) ok1 w2⟩
          · cases qi
        | _ => cases qi
end
end DV
set_option Elab.async false
set_option linter.all false
set_option maxRecDepth 100000
set_option maxHeartbeats 4000000
/-! Reversed tuples and lists. -/
namespace DV
open PySem PySem.Spec PyProof.Rows L2

theorem rv_adjust (n : Nat) : Builtin.Slice.sliceAdjust none none (-1) (n : Int) = ((n : Int) - 1, -1) := by
  unfold Builtin.Slice.sliceAdjust
  have h1 : ((-1 : Int) < 0) := by decide
  simp only [h1, if_true]
theorem rv_places (n : Nat) : Builtin.Slice.slicePlaces ((n : Int) - 1) (-1) (-1) = n := by
  unfold Builtin.Slice.slicePlaces
  have h1 : ¬ ((-1 : Int) > 0) := by decide
  simp only [h1, if_false]
  by_cases h : (n : Int) - 1 > -1
  · have e : (((n : Int) - 1 - -1 - 1) / (- -1) + 1).toNat = n := by
      rw [show (- -1 : Int) = 1 by decide, Int.ediv_one]; omega
    first | (rw [if_pos h]; first | exact e | (simp only [Int.neg_neg, Int.ediv_one]; omega)) | (simp only [h, if_true]; first | exact e | (simp only [Int.neg_neg, Int.ediv_one]; omega))
  · have e : n = 0 := by omega
    subst e
    first | rfl | (rw [if_neg h])
theorem rv_pick (xs : Array Value) : ((List.range xs.size).filterMap fun (m : Nat) => xs[(((xs.size : Int) - 1) + (m : Int) * (-1)).toNat]?).toArray = xs.toList.reverse.toArray := by
  congr 1
  apply List.ext_getElem?
  intro i
  by_cases h : i < xs.size
  · have e : (fun (m : Nat) => xs[(((xs.size : Int) - 1) + (m : Int) * (-1)).toNat]?) = fun m : Nat => xs[(((xs.size : Int) - 1) + (m : Int) * (-1)).toNat]? := rfl
    have all : ∀ m ∈ List.range xs.size, (xs[(((xs.size : Int) - 1) + (m : Int) * (-1)).toNat]?) = some (xs.toList.reverse.getD m .none) := fun m hm => by
      have hm := List.mem_range.mp hm
      have e1 : (((xs.size : Int) - 1) + (m : Int) * (-1)).toNat = xs.size - 1 - m := by omega
      have hl : m < xs.toList.reverse.length := by simpa using hm
      rw [e1, List.getD_eq_getElem?_getD, List.getElem?_eq_getElem hl]
      simp only [Option.getD_some, List.getElem_reverse, Array.length_toList, Array.getElem_toList]
      rw [Array.getElem?_eq_getElem (by omega)]
    rw [filterMap_some all, List.getElem?_map, List.getElem?_range h]
    have hl : i < xs.toList.reverse.length := by simpa using h
    rw [List.getElem?_eq_getElem hl]
    simp only [Option.map_some, List.getD_eq_getElem?_getD, List.getElem?_eq_getElem hl, Option.getD_some]
  · have l1 : ((List.range xs.size).filterMap fun (m : Nat) => xs[(((xs.size : Int) - 1) + (m : Int) * (-1)).toNat]?).length ≤ xs.size := by
      have := List.length_filterMap_le (fun (m : Nat) => xs[(((xs.size : Int) - 1) + (m : Int) * (-1)).toNat]?) (List.range xs.size)
      simpa using this
    rw [List.getElem?_eq_none (by omega), List.getElem?_eq_none (by simp; omega)]
where
  filterMap_some {s t : Type} {f : s → Option t} {g : s → t} : ∀ {l : List s}, (∀ x ∈ l, f x = some (g x)) → l.filterMap f = l.map g
    | [], _ => rfl
    | x :: l, h => by
      rw [List.filterMap_cons, h x List.mem_cons_self, List.map_cons, filterMap_some fun y hy => h y (List.mem_cons_of_mem _ hy)]

section
variable {prog : Program} {w : World} {A : Around} {E : Value → Shared → Prop} {s : Shared}
theorem rv_applied {sl : Addr} {n : Nat} {u : Tok} {Q : Int × Int × Nat → Shared → Prop} (hs : s.heap.IsSliceOf sl .none .none (.int (-1) u)) (h : Q ((n : Int) - 1, -1, n) s) :
    wpAny (model prog w) A (Builtin.Slice.sliceApplied (.ref sl) (pure (n : Int))) Q E s := by
  obtain ⟨os, hos, hcs, hds⟩ := id hs
  unfold Builtin.Slice.sliceApplied Builtin.Slice.sliceFields
  refine wpAny_bind (wpAny_bind (wpAny_field hos hds (x := .none) rfl (wpAny_bind (wpAny_field hos hds (x := .none) rfl (wpAny_bind (wpAny_field hos hds (x := .int (-1) u) rfl (wpAny_pure ?_)))))))
  refine wpAny_bind (slicePart_int ?_)
  show wpAny _ _ (if ((-1 : Int) == 0) = true then _ else _) _ _ s
  rw [if_neg (by decide)]
  refine wpAny_bind (slicePart_none (wpAny_bind (slicePart_none (wpAny_bind (wpAny_pure ?_)))))
  show wpAny _ _ (match Builtin.Slice.sliceAdjust none none (-1) (n : Int) with | (lo, hi) => pure (lo, (-1 : Int), Builtin.Slice.slicePlaces lo hi (-1))) _ _ s
  rw [rv_adjust]
  show wpAny _ _ (pure ((n : Int) - 1, (-1 : Int), Builtin.Slice.slicePlaces ((n : Int) - 1) (-1) (-1))) _ _ s
  rw [rv_places]
  exact wpAny_pure h
theorem rv_item {t sl : Addr} {items : Array Value} {u : Tok} {Q : Value → Shared → Prop} (ht : IsTup s.heap t items) (hs : s.heap.IsSliceOf sl .none .none (.int (-1) u))
    (h : Q (.ref s.heap.objs.size) { s with heap := s.heap.push { cls := .type "tuple", data := .seq items.toList.reverse.toArray } })
    (hsz : items.size ≤ sizeLine) : wpAny (model prog w) A (getItem (.ref t) (.ref sl)) Q E s := by
  have htake : sizeOk (.seq items.toList.reverse.toArray) := by
    show items.toList.reverse.toArray.size ≤ sizeLine
    rw [List.size_toArray, List.length_reverse, Array.length_toList]
    exact hsz
  obtain ⟨os, hos, hcs, hds⟩ := id hs
  have hTs : s.TypeIs (.ref sl) "slice" := ⟨os, hos, hcs⟩
  unfold getItem
  try with_reducible refine wpAny_holding ?_
  first | refine wpAny_bind (wpAny_pure ?_) | skip
  refine wpAny_bind (wpAny_sequenceKey ht.typeIs (by decide) ?_)
  refine wpAny_bind (wpAny_callSpecial?_slot (name := Str.ofString "__getitem__") ht.typeIs PyProof.Rows.slot_tuple_getitem
    (wpAny_call_entry PyProof.Rows.slot_tuple_getitem ht.typeIs entry_tuple_getitem ?_ (args_tuple_getitem _ _)))
  show wpAny _ _ (Builtin.Tuple.tupleItemsOf (.ref t) >>= _) _ _ s
  refine wpAny_bind (tupleItemsOf_ ht ?_)
  refine wpAny_bind (wpAny_typeOf hTs ?_)
  rw [if_pos (by decide)]
  refine wpAny_bind (rv_applied hs ?_)
  have hno : ¬ ((((items.size : Int) - 1) == 0 && (-1 : Int) == 1 && items.size == items.size) = true) := by
    intro q
    rw [Bool.and_eq_true, Bool.and_eq_true] at q
    exact absurd (eq_of_beq q.1.2) (by decide)
  show wpAny _ _ (if (((items.size : Int) - 1) == 0 && (-1 : Int) == 1 && items.size == items.size) = true then _ else _) _ _ s
  rw [if_neg hno, rv_pick]
  first
    | exact wpAny_bind (m := Builtin.Tuple.tupleExact _) (wpAny_newObj_type (wpAny_pure ⟨_, rfl, wpAny_pure h⟩) htake)
    | exact wpAny_bind (m := Builtin.Tuple.tupleExact _) (wpAny_newObj_type (wpAny_bind (wpAny_pure (wpAny_pure ⟨_, rfl, wpAny_pure h⟩))) htake)
    | exact wpAny_bind (wpAny_bind (m := Builtin.Tuple.tupleExact _) (wpAny_newObj_type (wpAny_pure (wpAny_pure ⟨_, rfl, wpAny_pure h⟩)) htake))
    | exact wpAny_bind (wpAny_bind (m := Builtin.Tuple.tupleExact _) (wpAny_newObj_type (wpAny_pure ⟨_, rfl, wpAny_pure h⟩) htake))
end

section
variable {X : Cx} {c : Ctx} {Wx : WX} {f : En → Out (D × En)}
def tRev (K : PySem.W.Frag) (te : TE) : TE := fun σ H Q => te σ H fun x H1 => (∃ a xs, x = .ref a ∧ SqL K H1 a xs ∧ ∀ p, H1 p = none → Q (.ref p) (upd H1 p (.lst xs.reverse))) ∨
  (∃ a xs, x = .ref a ∧ SqT K H1 a xs ∧ ∀ p, H1 p = none → Q (.ref p) (upd H1 p (.tup xs.reverse)))
theorem pe_rev {e : Expr} {te : TE} {k : Nat} {p1 p2 p3 pos : Pos} (he : PE X e te) : PE X (.Subscript e (.Slice none none (some (.UnaryOp .USub (.Constant (.int 1) k p1) p2)) p3) pos) (tRev X.K te) := by
  refine ⟨fun pins s σ H Q I h => ?_⟩
  refine Subscript_ (thn (he.run pins s σ H _ I h) fun v s1 ⟨x, H1, I1, r1, q1⟩ => ?_)
  have hst : PO X (some (.UnaryOp .USub (.Constant (.int 1) k p1) p2)) (tPart (tUn (rU fun i => .int (-i)) (tC (.int 1)))) := po_some (pe_un un_neg pe_int)
  refine wpAny_Slice (thn (po_none.run pins s1 σ H1 (fun o H2 => o = none ∧ H2 = H1) I1 ⟨rfl, rfl⟩) fun vl s2 ⟨l, H2, I2, pl, el, e2⟩ => ?_)
  subst el e2
  refine thn (po_none.run pins s2 σ H2 (fun o H3 => o = none ∧ H3 = H2) I2 ⟨rfl, rfl⟩) fun vu s3 ⟨u, H3, I3, pu, eu, e3⟩ => ?_
  subst eu e3
  refine thn (hst.run pins s3 σ H3 (fun o H4 => o = some (-1) ∧ H4 = H3) I3 ⟨1, rfl, -1, rfl, rfl, rfl⟩) fun vs s4 ⟨o, H4, I4, ps, eo, e4⟩ => ?_
  subst eo e4
  have I5 : L2.Inv X pins σ H4 { s4 with heap := s4.heap.push { cls := .type "slice", data := .fields #[vl, vu, vs] } } := I4.kept (t' := s4.toks) fun b ob q => Heap.get?_push_of_some _ q
  rcases q1 with ⟨a, xs, ex, hx, q⟩ | ⟨a, xs, ex, hx, q⟩
  · subst ex
    cases r1
    obtain ⟨its, r, ht, hz⟩ := I5.list hx
    have hlen := r.length
    show wpAny (model X.prog X.w) X.A (subscriptTail e (.Slice none none (some (.UnaryOp .USub (.Constant (.int 1) k p1) p2)) p3) (.ref a) (.ref s4.heap.objs.size)) (EP X pins σ Q) X.xe { s4 with heap := s4.heap.push { cls := .type "slice", data := .fields #[vl, vu, vs] } }
    refine tail_any (ops := [.ref a, .ref s4.heap.objs.size]) ht.isList.typeIs (PySem.slot_list_getitem.lookup) ?_ (by with_unfolding_all rfl)
    refine wpAny_getItem_list_slice ht.isList (Heap.IsSliceOf.new _ vl vu vs) pl pu ps (by decide) ?_ (by rw [List.size_toArray]; omega)
    rw [PySem.W.krv_pick]
    refine ⟨.ref _, _, I5.laid (t' := s4.toks) (o := .lst xs.reverse) (fun b ob q => Heap.get?_push_of_some _ q) (Nat.le_refl _) ?_, rfl, q _ (I5.hok.fresh (Nat.le_refl _))⟩
    exact ⟨by rw [List.length_reverse]; exact hz, _, 0, r.reverse, Heap.get?_push_size _ rfl⟩
  · subst ex
    cases r1
    cases pl; cases pu
    obtain ⟨tk, rfl⟩ : ∃ tk, vs = .int (-1) tk := by cases ps; exact ⟨_, rfl⟩
    obtain ⟨its, r, ht, hz⟩ := I5.tuple hx
    have hlen := r.length
    show wpAny (model X.prog X.w) X.A (subscriptTail e (.Slice none none (some (.UnaryOp .USub (.Constant (.int 1) k p1) p2)) p3) (.ref a) (.ref s4.heap.objs.size)) (EP X pins σ Q) X.xe { s4 with heap := s4.heap.push { cls := .type "slice", data := .fields #[.none, .none, .int (-1) tk] } }
    refine tail_any (ops := [.ref a, .ref s4.heap.objs.size]) ht.typeIs (PyProof.Rows.slot_tuple_getitem.lookup) ?_ (by with_unfolding_all rfl)
    refine rv_item ht (Heap.IsSliceOf.new _ .none .none (.int (-1) tk)) ?_ (by rw [List.size_toArray]; omega)
    refine ⟨.ref _, _, I5.laid (t' := s4.toks) (o := .tup xs.reverse) (fun b ob q => Heap.get?_push_of_some _ q) (Nat.le_refl _) ?_, rfl, q _ (I5.hok.fresh (Nat.le_refl _))⟩
    exact ⟨by rw [List.length_reverse]; exact hz, its.reverse, r.reverse, ⟨_, Heap.get?_push_size _ rfl, rfl, _, rfl⟩⟩
theorem s_rev {a : Expr} {k : Nat} {p1 p2 p3 pos : Pos} (hK : X.K = c.K) (ha : PE X a (tV c Wx f)) : PE X (.Subscript a (.Slice none none (some (.UnaryOp .USub (.Constant (.int 1) k p1) p2)) p3) pos) (tV c Wx fun e => (f e).bind fun (x, e1) => (revD x).at e1) := by
  refine PE.imp (pe_rev ha) fun σ H Q hq => ?_
  obtain ⟨G, e, ok, p⟩ := hq
  refine ⟨G, e, ok, (Post.bind (R := Rep) p).mono fun x H1 ⟨G1, d1, e1, st1, ok1, r1, p1⟩ => ?_⟩
  dsimp only at p1
  cases d1 with
  | list ds =>
    cases r1 with
    | lst n a r => exact .inl ⟨_, _, rfl, .inl (.inl a), fun q hq => p1 _ _ G1 (.of_ext (.of (same_upd hq))) (ok1.same (same_upd hq)) (rep_lst ok1.zl hq r.reverse)⟩
  | tuple ds =>
    cases r1 with
    | tup a r => exact .inr ⟨_, _, rfl, by rw [hK]; exact a, fun q hq => p1 _ _ G1 (.of_ext (.of (same_upd hq))) (ok1.same (same_upd hq)) (rep_tup ok1.zl hq r.reverse)⟩
  | _ => exact p1.elim
end
end DV
set_option Elab.async false
set_option linter.all false
set_option maxRecDepth 100000
set_option maxHeartbeats 4000000
/-! Stores: targets. -/
namespace DV
open PySem PySem.Spec PyProof.Rows L2

/-- from one statement to the next: data stays, and may be told of -/
structure StepS (c : Ctx) (G : Gh) (H : Hp) (G' : Gh) (H' : Hp) : Prop where
  O : G'.O = G.O
  keep : ∀ b o, H b = some o → isDat o → ¬ Zm c G b → H' b = some o ∧ ¬ Zm c G' b
theorem StepS.refl (c : Ctx) (G : Gh) (H : Hp) : StepS c G H G H := ⟨rfl, fun _ _ h _ n => ⟨h, n⟩⟩
theorem StepS.trans {c : Ctx} {G G1 G2 : Gh} {H H1 H2 : Hp} (a : StepS c G H G1 H1) (b : StepS c G1 H1 G2 H2) : StepS c G H G2 H2 :=
  ⟨b.O.trans a.O, fun x o h d n => let ⟨p, q⟩ := a.keep x o h d n; b.keep x o p d q⟩
theorem Step.s {c : Ctx} {G G' : Gh} {H H' : Hp} (s : Step c G H G' H') : StepS c G H G' H' := ⟨s.O, fun b o h d n => ⟨s.keep b o h d n, by rw [s.zm]; exact n⟩⟩
section
variable {c : Ctx} {G G' : Gh} {H H' : Hp}
theorem nz_tup {Z : Addr → Prop} {a : Addr} {xs : List V} (hz : ZL Z H) (h : H a = some (.tup xs)) : ¬ Z a := fun z => by
  obtain ⟨ys, e⟩ := hz a z; rw [h] at e; cases e
theorem nz_frz {Z : Addr → Prop} {a : Addr} {o : Obj} {u : HO} (hz : ZL Z H) (h : H a = some (.frz o u)) : ¬ Z a := fun z => by
  obtain ⟨ys, e⟩ := hz a z; rw [h] at e; cases e
theorem StepS.sqT (s : StepS c G H G' H') (hz : ZL (Zm c G) H) {K : PySem.W.Frag} {a : Addr} {xs : List V} (h : SqT K H a xs) : SqT K H' a xs := by
  rcases h with (h | ⟨o, h⟩) | h
  · exact .inl (.inl (s.keep a _ h trivial (nz_tup hz h)).1)
  · exact .inl (.inr ⟨o, (s.keep a _ h trivial (nz_frz hz h)).1⟩)
  · exact .inr h
theorem StepS.sqF (s : StepS c G H G' H') (hz : ZL (Zm c G) H) {K : PySem.W.Frag} {a : Addr} {xs : List V} (h : SqF K H a xs) : SqF K H' a xs := by
  rcases h with ⟨o, h⟩ | h
  · exact .inl ⟨o, (s.keep a _ h trivial (nz_frz hz h)).1⟩
  · exact .inr h
mutual
theorem StepS.rep (s : StepS c G H G' H') (hz : ZL (Zm c G) H) : ∀ {v : V} {d : D}, Rep (c.wd G) H v d → Rep (c.wd G') H' v d
  | _, _, .non => .non
  | _, _, .bl b => .bl b
  | _, _, .int i => .int i
  | _, _, .str x => .str x
  | _, _, .lst (a := a) n h r => let ⟨p, q⟩ := s.keep a _ h trivial n; .lst q p (StepS.reps s hz r)
  | _, _, .tup h r => .tup (s.sqT hz h) (StepS.reps s hz r)
  | _, _, .obj h => .obj (by show G'.O[_]? = _; rw [s.O]; exact h)
  | _, _, .scr (a := a) h r => .scr (s.sqF hz h) (StepS.reps s hz r)
  | _, _, .scrL (a := a) n h r => let ⟨p, q⟩ := s.keep a _ h trivial n; .scrL q p (StepS.reps s hz r)
theorem StepS.reps (s : StepS c G H G' H') (hz : ZL (Zm c G) H) : ∀ {v : List V} {d : List D}, Reps (c.wd G) H v d → Reps (c.wd G') H' v d
  | _, _, .nil => .nil
  | _, _, .cons h t => .cons (StepS.rep s hz h) (StepS.reps s hz t)
end
/-- the slots' own lists: slot i changes its list -/
theorem mem_set {M : List (Option Addr)} {i : Nat} {x : Option Addr} {b : Addr} (h : some b ∈ M.set i x) : some b ∈ M ∨ x = some b := by
  rcases List.mem_or_eq_of_mem_set h with h | h
  · exact .inl h
  · exact .inr h.symm
theorem zm_none {i : Nat} {b : Addr} (h : Zm c ⟨G.M.set i none, G.O, G.X⟩ b) : Zm c G b := by
  rcases h with h | h | h
  · exact .inl h
  · rcases mem_set h with h | h
    · exact .inr (.inl h)
    · cases h
  · exact .inr (.inr h)
theorem zm_some {i : Nat} {a b : Addr} {O : List Addr} (h : Zm c ⟨G.M.set i (some a), O, G.X⟩ b) : Zm c G b ∨ b = a := by
  rcases h with h | h | h
  · exact .inl (.inl h)
  · rcases mem_set h with h | h
    · exact .inl (.inr (.inl h))
    · exact .inr (by cases h; rfl)
  · exact .inl (.inr (.inr h))
/-- the slots' own lists at vs given up -/
def wipeM (M : List (Option Addr)) : List Nat → List (Option Addr)
  | [] => M
  | v :: vs => wipeM (M.set v none) vs
theorem wipeM_append (M : List (Option Addr)) : ∀ vs ws, wipeM M (vs ++ ws) = wipeM (wipeM M vs) ws
  | [], _ => rfl
  | v :: vs, ws => by
    show wipeM (M.set v none) (vs ++ ws) = _
    rw [wipeM_append]; rfl
theorem StepS.drop (i : Nat) : StepS c G H ⟨G.M.set i none, G.O, G.X⟩ H := ⟨rfl, fun b o h d n => ⟨h, fun z => n (zm_none z)⟩⟩
end

/-- only these slots change -/
def Only (vs : List Nat) (σ σ' : L2.St) : Prop := wipe σ' vs = wipe σ vs
theorem wipe_get (σ : L2.St) (vs : List Nat) (i : Nat) : (wipe σ vs)[i]? = if i ∈ vs then (σ[i]?).map (fun _ => none) else σ[i]? := by
  induction vs with
  | nil => simp [wipe]
  | cons v vs ih =>
    unfold wipe
    by_cases h : v = i
    · subst h
      simp only [List.mem_cons, true_or, if_true]
      by_cases hl : v < σ.length
      · rw [List.getElem?_set_self (by rw [wipe_length]; exact hl), List.getElem?_eq_getElem hl]; rfl
      · rw [List.getElem?_eq_none (by rw [List.length_set, wipe_length]; omega), List.getElem?_eq_none (by omega)]; rfl
    · rw [List.getElem?_set_ne h, ih]
      have : (i ∈ v :: vs) ↔ i ∈ vs := by simp [List.mem_cons, Ne.symm h]
      by_cases hm : i ∈ vs
      · rw [if_pos hm, if_pos (this.mpr hm)]
      · rw [if_neg hm, if_neg (fun z => hm (this.mp z))]
theorem Only.refl (vs : List Nat) (σ : L2.St) : Only vs σ σ := rfl
theorem Only.trans {vs : List Nat} {σ σ1 σ2 : L2.St} (a : Only vs σ σ1) (b : Only vs σ1 σ2) : Only vs σ σ2 := Eq.trans b a
theorem Only.mono {vs ws : List Nat} {σ σ' : L2.St} (h : Only vs σ σ') (hs : ∀ i ∈ vs, i ∈ ws) : Only ws σ σ' := by
  unfold Only at *
  apply List.ext_getElem?
  intro i
  have q := congrArg (·[i]?) h
  simp only [wipe_get] at q ⊢
  by_cases hi : i ∈ ws
  · rw [if_pos hi, if_pos hi]
    by_cases hv : i ∈ vs
    · rw [if_pos hv, if_pos hv] at q; exact q
    · rw [if_neg hv, if_neg hv] at q; rw [q]
  · have hv : i ∉ vs := fun z => hi (hs i z)
    rw [if_neg hv, if_neg hv] at q
    rw [if_neg hi, if_neg hi, q]
theorem Only.set (i : Nat) (x : Option V) (σ : L2.St) : Only [i] σ (σ.set i x) := by
  unfold Only
  show ((σ.set i x).set i none) = σ.set i none
  rw [List.set_set]

section
variable {c : Ctx} {G : Gh} {σ : L2.St} {H : Hp} {e : En}
theorem set_get {t : Type} {l : List t} {i j : Nat} {x y : t} (h : (l.set i x)[j]? = some y) : (j = i ∧ y = x ∧ i < l.length) ∨ (j ≠ i ∧ l[j]? = some y) := by
  by_cases hj : i = j
  · subst hj
    by_cases hl : i < l.length
    · rw [List.getElem?_set_self hl] at h; cases h; exact .inl ⟨rfl, rfl, hl⟩
    · rw [List.getElem?_eq_none (by simpa using hl)] at h; cases h
  · rw [List.getElem?_set_ne hj] at h; exact .inr ⟨Ne.symm hj, h⟩
theorem rep_drop (i : Nat) (hz : ZL (Zm c G) H) {v : V} {d : D} (r : Rep (c.wd G) H v d) : Rep (c.wd ⟨G.M.set i none, G.O, G.X⟩) H v d := (StepS.drop i).rep hz r
/-- the slot i gets a value -/
theorem free_lt {e : En} {i : Nat} (h : e.free i = true) : i < e.sl.length ∧ ∀ ds, e.sl[i]? ≠ some (.bag ds) := by
  unfold En.free at h
  split at h
  · cases h
  · rename_i s hn hs
    exact ⟨(List.getElem?_eq_some_iff.mp hs).1, fun ds z => by rw [hs] at z; cases z; exact hn _ rfl⟩
  · cases h
theorem Ok.argSet {i : Nat} {S : Slot} {M' : List (Option Addr)} (ok : Ok c G σ H e) (hf : e.free i = true) (hM : ∀ j, i ≠ j → M'[j]? = G.M[j]?) : ∀ (p : Nat × Addr), p ∈ c.PP → M'[p.1]? = some (some p.2) ∧ ∃ ds, (e.sl.set i S)[p.1]? = some (.bag ds) := fun p h => by
  obtain ⟨b1, ds, b2⟩ := ok.arg p h
  have h0 : i ≠ p.1 := fun z => (free_lt hf).2 ds (z ▸ b2)
  exact ⟨by rw [hM p.1 h0]; exact b1, ds, by rw [List.getElem?_set_ne h0]; exact b2⟩
theorem Ok.set {i : Nat} {v : V} {d : D} (ok : Ok c G σ H e) (hf : e.free i = true) (r : Rep (c.wd G) H v d) : Ok c ⟨G.M.set i none, G.O, G.X⟩ (σ.set i (some v)) H (e.put i (.val d)) := by
  have st : StepS c G H ⟨G.M.set i none, G.O, G.X⟩ H := StepS.drop i
  have hi := (free_lt hf).1
  have hiσ : i < σ.length := by rw [← ok.len]; exact hi
  have hiM : i < G.M.length := by rw [ok.lenM]; exact hiσ
  refine ⟨by simpa [En.put] using ok.len, by simpa using ok.lenM, fun j s q => ?_, fun j k a h1 h2 => ?_, ok.fr, fun b z => ok.zl b (zm_none z), fun j a h => ?_, fun j ds a q h => ?_, fun p hp => ⟨(ok.pin p hp).1, fun j h => ?_⟩, ok.argSet hf fun j h => List.getElem?_set_ne h, fun n k fs q => ?_⟩
  · rcases set_get q with ⟨rfl, rfl, _⟩ | ⟨ne, q⟩
    · exact ⟨none, some v, List.getElem?_set_self hiM, List.getElem?_set_self hiσ, rfl, v, rfl, st.rep ok.zl r⟩
    · obtain ⟨m, x, h1, h2, h3⟩ := ok.slot j s q
      refine ⟨m, x, by rw [List.getElem?_set_ne (Ne.symm ne)]; exact h1, by rw [List.getElem?_set_ne (Ne.symm ne)]; exact h2, ?_⟩
      cases s with
      | no => exact h3
      | val d => obtain ⟨a, v, b, r⟩ := h3; exact ⟨a, v, b, st.rep ok.zl r⟩
      | own ds => obtain ⟨a, vs, e1, e2, e3, r⟩ := h3; exact ⟨a, vs, e1, e2, e3, st.reps ok.zl r⟩
      | bag ds => obtain ⟨a, vs, e1, e2, e3, r⟩ := h3; exact ⟨a, vs, e1, e2, e3, st.reps ok.zl r⟩
  · rcases set_get h1 with ⟨_, z, _⟩ | ⟨_, h1⟩
    · cases z
    · rcases set_get h2 with ⟨_, z, _⟩ | ⟨_, h2⟩
      · cases z
      · exact ok.inj j k a h1 h2
  · rcases set_get h with ⟨_, z, _⟩ | ⟨_, h⟩
    · cases z
    · exact ok.own j a h
  · rcases set_get h with ⟨_, z, _⟩ | ⟨ne, h⟩
    · cases z
    · have q : (e.sl.set i (.val d))[j]? = some (.own ds) := q
      rw [List.getElem?_set_ne (Ne.symm ne)] at q
      exact ok.mine j ds a q h
  · rcases set_get h with ⟨_, z, _⟩ | ⟨_, h⟩
    · cases z
    · exact (ok.pin p hp).2 j h
  · obtain ⟨a, dx, vs, e1, e2, e3, e4⟩ := ok.obs n k fs q
    exact ⟨a, dx, vs, e1, e2, e3, st.reps ok.zl e4⟩
end

/-! ### targets -/
/-- a target gets the value d -/
def tG (c : Ctx) (t : Tg) : TG := fun v σ H Q => ∃ G e d e1, Ok c G σ H e ∧ Rep (c.wd G) H v d ∧ (tg t).1 d e = .ok e1 ∧ ∀ σ' H' G', Only t.slots σ σ' → G'.M = wipeM G.M t.slots ∧ G'.X = G.X → StepS c G H G' H' → Ok c G' σ' H' e1 → Q σ' H'
def tGs (c : Ctx) (t : Tg) : TGs := fun vs σ H Q => ∃ G e ds e1, Ok c G σ H e ∧ Reps (c.wd G) H vs ds ∧ (tg t).2 ds e = .ok e1 ∧ ∀ σ' H' G', Only t.slots σ σ' → G'.M = wipeM G.M t.slots ∧ G'.X = G.X → StepS c G H G' H' → Ok c G' σ' H' e1 → Q σ' H'
section
variable {X : Cx} {c : Ctx}
theorem g_name {i : Nat} {x : Str} {pos : Pos} (hN : X.N.Nodup) (hi : X.N[i]? = some x) (hx : Loc X.env.scope x) (hf : X.fn x = true ∨ X.env.scope.names.lookup x = some .local) : PG X (.Name x pos) (tG c (.name i)) := by
  refine PG.imp (pg_name hN hi hx hf) fun v σ H Q hq => ?_
  obtain ⟨G, e, d, e1, ok, r, ha, p⟩ := hq
  dsimp only [tg] at ha
  split at ha
  · rename_i hs
    cases ha
    exact p _ H ⟨G.M.set i none, G.O, G.X⟩ (.set i _ σ) ⟨rfl, rfl⟩ (.drop i) (ok.set hs r)
  · cases ha
theorem extB_upd {H : Hp} {a : Addr} {o : HO} : ExtB a H (upd H a o) := fun b u q _ n => by rw [upd_ne n]; exact q
theorem tabs_upd {T : List (Addr × Str)} {H : Hp} {a : Addr} {xs ys : List V} (h : H a = some (.lst xs)) (t : LamX.Tabs T H) : LamX.Tabs T (upd H a (.lst ys)) := fun p hp => by
  obtain ⟨ps, h1, h2, h3⟩ := t p hp
  refine ⟨ps, by rw [upd_ne fun z => by rw [z, h] at h1; cases h1]; exact h1, h2, fun pos cv hc => ?_⟩
  obtain ⟨c, e1, e2⟩ := h3 pos cv hc
  refine ⟨c, e1, ?_⟩
  rw [upd_ne fun z => ?_]
  · exact e2
  · rw [z, h] at e2; unfold LamX.CodeO at e2; cases e2
theorem g_sub {i j : Nat} {x y : Str} {px py pos : Pos} (hx : PE X (.Name x px) (tVar i)) (hy : PE X (.Name y py) (tVar j)) : PG X (.Subscript (.Name x px) (.Name y py) pos) (tG c (.sub i j)) := by
  refine PG.imp (pg_sub hx hy set_list) fun v σ H Q hq => ?_
  obtain ⟨G, e, d, e1, ok, r, ha, p⟩ := hq
  dsimp only [tg] at ha
  unfold En.get at ha
  cases qj : e.sl[j]? with
  | none => rw [qj] at ha; cases ha
  | some sj =>
    rw [qj] at ha
    obtain ⟨mj, xj, j1, j2, j3⟩ := ok.slot j sj qj
    cases sj with
    | val k =>
      obtain ⟨_, w, rfl, rk⟩ := j3
      dsimp only [Out.bind] at ha
      cases qo : e.getOwn i with
      | err m => rw [qo] at ha; cases ha
      | bad => rw [qo] at ha; cases ha
      | ok ds =>
        rw [qo] at ha
        dsimp only at ha
        obtain ⟨a, vs, g1, g2, g3, g4, g5⟩ := own_get ok qo
        cases k with
        | int n =>
          cases rk
          dsimp only [setL] at ha
          split at ha
          · rename_i ds' heq
            cases ha
            split at heq
            · rename_i t ht
              cases heq
              have za : Zm c G a := .inr (.inl (mem_M g2))
              refine ⟨_, g3, _, j2, a, vs, n, t, rfl, rfl, g4, by rw [g5.length]; exact ht, ?_⟩
              have st : Step c G H G (upd H a (.lst (vs.set t v))) := .turn g2 extB_upd
              have hz' : ZL (Zm c G) H := ok.zl
              exact p σ _ G (.refl _ _) ⟨rfl, rfl⟩ st.s (ok.turn g1 g2 g3 extB_upd (tabs_upd g4 ok.fr.2) upd_same ⟨a, _, rfl, rfl, upd_same, (st.reps hz' g5).set t (st.rep hz' r)⟩ (fun ds' _ => ⟨_, rfl⟩) fun _ z => nomatch z)
            · cases heq
          · cases ha
          · cases ha
        | _ => cases ha
    | _ => cases ha
theorem gs_nil : PGs X [] (tGs c .nil) := by
  refine PGs.imp pgs_nil fun v σ H Q hq => ?_
  obtain ⟨G, e, ds, e1, ok, r, ha, p⟩ := hq
  dsimp only [tg] at ha
  cases r with
  | nil => cases ha; exact ⟨rfl, p σ H G (.refl _ _) ⟨rfl, rfl⟩ (.refl _ _ _) ok⟩
  | cons h t => cases ha
def noStarT : Expr → Bool
  | .Starred _ _ => false
  | _ => true
theorem assign_cons {a : Expr} {es : List Expr} {env : PySem.Env} (h : noStarT a = true) : (assignEach (a :: es) env).map (·.2) = assign a env :: (assignEach es env).map (·.2) := by
  cases a <;> first | rfl | (exact absurd h (by simp [noStarT]))
theorem gs_cons {a : Expr} {es : List Expr} {t r : Tg} (hs : noStarT a = true) (h1 : PG X a (tG c t)) (h2 : PGs X es (tGs c r)) : PGs X (a :: es) (tGs c (.cons t r)) := by
  refine PGs.imp (pgs_cons h1 h2 (assign_cons hs)) fun vs σ H Q hq => ?_
  obtain ⟨G, e, ds, e1, ok, rr, ha, p⟩ := hq
  dsimp only [tg] at ha
  cases rr with
  | nil => cases ha
  | @cons v vs d ds hv ht =>
    dsimp only at ha
    cases q : (tg t).1 d e with
    | err m => rw [q] at ha; cases ha
    | bad => rw [q] at ha; cases ha
    | ok e0 =>
      rw [q] at ha
      dsimp only [Out.bind] at ha
      refine ⟨v, vs, rfl, G, e, d, e0, ok, hv, q, fun σ1 H1 G1 o1 m1 s1 ok1 => ?_⟩
      refine ⟨G1, e0, ds, e1, ok1, s1.reps ok.zl ht, ha, fun σ2 H2 G2 o2 m2 s2 ok2 => ?_⟩
      exact p σ2 H2 G2 ((o1.mono fun i hi => List.mem_append_left _ hi).trans (o2.mono fun i hi => List.mem_append_right _ hi)) ⟨by rw [m2.1, m1.1]; exact (wipeM_append _ _ _).symm, m2.2.trans m1.2⟩ (s1.trans s2) ok2
theorem assign_star : ∀ {es : List Expr} {env : PySem.Env}, es.all noStarT = true → (assignEach es env).findIdx? (·.1) = none ∧ (assignEach es env).length = es.length
  | [], _, _ => ⟨rfl, rfl⟩
  | a :: es, env, h => by
    rw [List.all_cons, Bool.and_eq_true] at h
    obtain ⟨i1, i2⟩ := assign_star (env := env) h.2
    have e : assignEach (a :: es) env = (false, assign a env) :: assignEach es env := by
      have ha := h.1
      cases a <;> first | rfl | (exact absurd ha (by simp [noStarT]))
    rw [e, List.findIdx?_cons]
    simp [i1, i2]
theorem tgs_len {t : Tg} : ∀ {ds : List D} {e e1 : En}, (tg t).2 ds e = .ok e1 → ∀ {N : List Str} {b : Bl} {es : List Expr}, mTgs N b t es = true → ds.length = es.length := by
  induction t with
  | name i => intro ds e e1 h; cases h
  | sub i j => intro ds e e1 h; cases h
  | nil =>
    intro ds e e1 h N b es hm
    dsimp only [tg] at h
    cases ds with
    | nil => cases es with
      | nil => rfl
      | cons _ _ => simp [mTgs] at hm
    | cons _ _ => cases h
  | cons a r iha ihr =>
    intro ds e e1 h N b es hm
    dsimp only [tg] at h
    cases ds with
    | nil => cases h
    | cons d ds =>
      cases es with
      | nil => simp [mTgs] at hm
      | cons x es =>
        simp only [mTgs, Bool.and_eq_true] at hm
        dsimp only at h
        cases q : (tg a).1 d e with
        | err m => rw [q] at h; cases h
        | bad => rw [q] at h; cases h
        | ok e0 =>
          rw [q] at h
          rw [List.length_cons, List.length_cons, ihr h hm.2]
end
end DV
set_option Elab.async false
set_option linter.all false
set_option maxRecDepth 100000
set_option maxHeartbeats 4000000
/-! Where a body stands; targets by their texts; what is walked. -/
namespace DV
open PySem PySem.Spec PyProof.Rows L2

def builtinNames : List Str := ["len", "abs", "max", "min", "int", "str", "tuple", "list", "all", "any", "isinstance", "range", "enumerate", "zip", "bool", "sorted", "set"]
/-- the table of the code object, where lambdas are made -/
def LamI (base : Heap) (mg : Str → Option Value) (T : List (Addr × Str)) (cd : Value) (q : Str) : Prop := ∃ cc P, cd = .ref cc ∧ LamX.TabB base mg cc P ∧ (P, q ++ "<lambda>") ∈ T ∧ ∀ p ∈ T, p.1 = P → p.2 = q ++ "<lambda>"
/-- the context of a body, or of a block within: its names, its scope as it runs, room for k calls -/
structure At (X : Cx) (c : Ctx) (N : List Str) (b : Bl) (k : Nat) (Wx : WX) : Prop where
  hN : X.N = N
  nd : N.Nodup
  db : ∀ x ∈ N, (x == ("__debug__" : Str)) = false ∧ (x == ("__classdict__" : Str)) = false
  sc : X.env.scope = b.sc
  kind : b.sc.kind = .function
  fn : ∀ x, b.fn x = true → X.fn x = true
  hK : X.K = c.K
  hmg : X.mg = c.mg
  hP : X.prog = c.prog
  hw : X.w = c.w
  hB : X.base = c.base
  calm : X.calm = true
  room : Room k X.A
  tk : L2N.Takes X Wx
  free : ∀ x ∈ builtinNames, X.mg x = none
  lam : b.lm = true → LamI X.base X.mg c.T X.env.code X.env.qual
section
variable {X : Cx} {c : Ctx} {N : List Str} {b : Bl} {k : Nat} {Wx : WX}
theorem At.call (a : At X c N b k Wx) {x : Str} {sp : Sp} (h : CallC c.toGd k x sp) : CallOk X k x sp := by
  show CallOk0 X.prog X.w X.K X.mg X.base k x sp
  rw [a.hP, a.hw, a.hK, a.hmg, a.hB]; exact h
theorem vis_of {sc : Scope} {x : Str} (h : isVis (sc.names.lookup x) = true) : Vis sc x := by
  unfold isVis at h
  split at h
  · rename_i e; exact .inl e
  · rename_i e; exact .inr (.inl e)
  · rename_i e; exact .inr (.inr e)
  · cases h
theorem loc_of {sc : Scope} {x : Str} (h : isLoc (sc.names.lookup x) = true) : Loc sc x := by
  unfold isLoc at h
  split at h
  · rename_i e; exact .inl e
  · rename_i e; exact .inr e
  · cases h
theorem At.nm (a : At X c N b k Wx) {i : Nat} {x : Str} (h : nmB N b i x = true) : X.N[i]? = some x ∧ Vis X.env.scope x ∧ (x == ("__debug__" : Str)) = false ∧ (x == ("__classdict__" : Str)) = false := by
  unfold nmB at h
  rw [Bool.and_eq_true, decide_eq_true_eq] at h
  have hm := a.db x (List.mem_of_getElem? h.1)
  exact ⟨by rw [a.hN]; exact h.1, by rw [a.sc]; exact vis_of h.2, hm.1, hm.2⟩
theorem At.gl (a : At X c N b k Wx) {x y : Str} (h : glB b x y = true) : y = x ∧ Gl X x ∧ (x == ("__debug__" : Str)) = false ∧ x ≠ "__name__" := by
  unfold glB at h
  rw [Bool.and_eq_true, Bool.and_eq_true, Bool.and_eq_true, decide_eq_true_eq, decide_eq_true_eq, decide_eq_true_eq, Bool.not_eq_true'] at h
  refine ⟨h.1.1.1, ?_, h.1.2, h.2⟩
  show X.env.scope.names.lookup x = _
  rw [a.sc]; exact h.1.1.2
theorem noStar_tg : ∀ {t : Tg} {e : Expr}, mTg N b t e = true → noStarT e = true := by
  intro t e h
  cases e <;> first | rfl | (cases t <;> simp [mTg] at h)
theorem noStar_tgs : ∀ {t : Tg} {es : List Expr}, mTgs N b t es = true → es.all noStarT = true := by
  intro t
  induction t with
  | name i => intro es h; simp [mTgs] at h
  | sub i j => intro es h; simp [mTgs] at h
  | nil => intro es h; cases es with
    | nil => rfl
    | cons _ _ => simp [mTgs] at h
  | cons a r _ ihr => intro es h; cases es with
    | nil => rfl
    | cons e es =>
      simp only [mTgs, Bool.and_eq_true] at h
      rw [List.all_cons, noStar_tg h.1, ihr h.2]; rfl
theorem g_tup {es : List Expr} {a r : Tg} {kk : Nat} {pos : Pos} (hK : X.K = c.K) (hc : X.calm = true) (hm : mTgs N b (.cons a r) es = true) (h : PGs X es (tGs c (.cons a r))) : PG X (.Tuple es kk pos) (tG c (.cons a r)) := by
  have st := assign_star (env := X.env) (noStar_tgs hm)
  refine PG.imp (pg_tup hc h st.2 st.1) fun v σ H Q hq => ?_
  obtain ⟨G, e, d, e1, ok, rr, ha, p⟩ := hq
  cases d with
  | tuple ds =>
    have ha2 : (tg (.cons a r)).2 ds e = .ok e1 := by
      cases ds with
      | nil => cases ha
      | cons x ds => exact ha
    cases rr with
    | @tup ad xs ds h1 r1 =>
      refine ⟨ad, xs, rfl, by rw [hK]; exact h1, ?_, G, e, ds, e1, ok, r1, ha2, p⟩
      rw [r1.length]
      exact tgs_len ha2 hm
  | _ => cases ha
theorem At.tg_all (a : At X c N b k Wx) : ∀ t : Tg, (∀ e, mTg N b t e = true → PG X e (tG c t)) ∧ (∀ es, mTgs N b t es = true → PGs X es (tGs c t)) := by
  intro t
  induction t with
  | name i =>
    refine ⟨fun e h => ?_, fun es h => by simp [mTgs] at h⟩
    cases e with
    | Name x pos =>
      simp only [mTg, lcB, Bool.and_eq_true, Bool.or_eq_true, decide_eq_true_eq] at h
      obtain ⟨⟨h1, h2⟩, h3⟩ := h
      refine g_name (by rw [a.hN]; exact a.nd) (by rw [a.hN]; exact h1) (by rw [a.sc]; exact loc_of h2) ?_
      rcases h3 with h3 | h3
      · exact .inl (a.fn x h3)
      · exact .inr (by rw [a.sc]; exact h3)
    | _ => simp [mTg] at h
  | sub i j =>
    refine ⟨fun e h => ?_, fun es h => by simp [mTgs] at h⟩
    cases e with
    | Subscript o k pos =>
      cases o with
      | Name x px =>
        cases k with
        | Name y py =>
          simp only [mTg, Bool.and_eq_true] at h
          obtain ⟨x1, x2, x3, x4⟩ := a.nm h.1
          obtain ⟨y1, y2, y3, y4⟩ := a.nm h.2
          exact g_sub (pe_var x1 x2 x3 x4) (pe_var y1 y2 y3 y4)
        | _ => simp [mTg] at h
      | _ => simp [mTg] at h
    | _ => simp [mTg] at h
  | nil =>
    refine ⟨fun e h => by simp [mTg] at h, fun es h => ?_⟩
    cases es with
    | nil => exact gs_nil
    | cons _ _ => simp [mTgs] at h
  | cons t r iht ihr =>
    have g : ∀ es, mTgs N b (.cons t r) es = true → PGs X es (tGs c (.cons t r)) := fun es h => by
      cases es with
      | nil => simp [mTgs] at h
      | cons e es =>
        simp only [mTgs, Bool.and_eq_true] at h
        exact gs_cons (noStar_tg h.1) (iht.1 e h.1) (ihr.2 es h.2)
    refine ⟨fun e h => ?_, g⟩
    cases e with
    | Tuple es kk pos =>
      cases es with
      | nil => simp [mTg] at h
      | cons e es =>
        simp only [mTg] at h
        exact g_tup a.hK a.calm (by simpa only [mTgs] using h) (g _ (by simpa only [mTgs] using h))
    | _ => simp [mTg] at h
end

/-! ### what is walked -/
/-- the iterator J yields ds, while P stands -/
structure Src (c : Ctx) (J : It) (ds : List D) (P : Gh → Hp → Prop) : Prop where
  stay : ∀ {G H G' H'}, ZL (Zm c G) H → P G H → StepS c G H G' H' → P G' H'
  go : ∀ {G H} (i : Nat), P G H → i < ds.length → J.go i H
  stop : ∀ {G H} (i : Nat), P G H → ds.length ≤ i → J.stop i H
  yld : ∀ {G H x H'} (i : Nat) {d : D}, ZL (Zm c G) H → P G H → J.yld i H x H' → ds[i]? = some d → Same H H' ∧ Rep (c.wd G) H' x d
/-- a text that walks what f comes to -/
def tI (c : Ctx) (Wx : WX) (f : En → Out (List D × En)) : TI := fun σ H R => ∃ G e, Ok c G σ H e ∧ (match f e with
  | .ok (ds, e1) => ∀ J H' G' P, Step c G H G' H' → Ok c G' σ H' e1 → Src c J ds P → P G' H' → R J H'
  | .err x => ∀ C H', c.mg x = some (.ref C) → Fr c H' → Wx (.ref C) none σ H'
  | .bad => False)
section
variable {X : Cx} {c : Ctx} {N : List Str} {b : Bl} {k : Nat} {Wx : WX} {a d tgt : Expr} {f g : En → Out (D × En)} {pos p : Pos}
theorem src_list {G0 : Gh} {H0 : Hp} {ad : Addr} {xs : List V} {ds : List D} {K : PySem.W.Frag} : Src c (Itl K ad) ds (fun G H => Rep (c.wd G) H (.ref ad) (.list ds)) where
  stay := fun hz r s => s.rep hz r
  go := fun i r hi => by
    cases r with
    | @lst _ ys _ n h rr =>
      obtain ⟨v, e, _⟩ := rr.get (List.getElem?_eq_getElem hi)
      exact ⟨ys, v, .inl (.inl h), e⟩
  stop := fun i r hi => by
    cases r with
    | @lst _ ys _ n h rr => exact ⟨ys, .inl (.inl h), by rw [rr.length]; exact hi⟩
  yld := fun i d hz r y e => by
    obtain ⟨rfl, y⟩ := y
    cases r with
    | @lst _ ys _ n h rr =>
      obtain ⟨v, e1, r1⟩ := rr.get e
      have := y ys (.inl (.inl h))
      rw [this] at e1; cases e1
      exact ⟨.refl _, r1⟩
theorem src_tup {ad : Addr} {ds : List D} {K : PySem.W.Frag} (hK : K = c.K) : Src c (Itt K ad) ds (fun G H => Rep (c.wd G) H (.ref ad) (.tuple ds)) where
  stay := fun hz r s => s.rep hz r
  go := fun i r hi => by
    subst hK
    cases r with
    | @tup _ ys _ h rr =>
      obtain ⟨v, e, _⟩ := rr.get (List.getElem?_eq_getElem hi)
      exact ⟨ys, v, h, e⟩
  stop := fun i r hi => by
    subst hK
    cases r with
    | @tup _ ys _ h rr => exact ⟨ys, h, by rw [rr.length]; exact hi⟩
  yld := fun i d hz r y e => by
    subst hK
    obtain ⟨rfl, y⟩ := y
    cases r with
    | @tup _ ys _ h rr =>
      obtain ⟨v, e1, r1⟩ := rr.get e
      have := y ys h
      rw [this] at e1; cases e1
      exact ⟨.refl _, r1⟩
/-- a list or a tuple -/
theorem pi_seq {l tg : Expr} {tl : TE} (hl : PE X l tl) : PI X tg l (fun σ H R => tl σ H fun x H1 => ∃ ad xs, x = .ref ad ∧ ((SqL X.K H1 ad xs ∧ R (Itl X.K ad) H1) ∨ (SqT X.K H1 ad xs ∧ R (Itt X.K ad) H1))) := by
  refine ⟨fun pins s σ H R I h => ?_⟩
  refine thn (hl.run pins s σ H _ I h) fun v s1 ⟨x, H1, I1, r1, q1⟩ => ?_
  obtain ⟨ad, xs, e, q1⟩ := q1
  subst e
  cases r1
  rcases q1 with ⟨hq, q⟩ | ⟨hq, q⟩
  · obtain ⟨its, rv, pl, hz⟩ := I1.list hq
    refine wpAny_pyIter_list pl.isList ?_
    refine ⟨s1.heap.objs.size, [s1.heap.objs.size], _, _, H1, rfl, I1.kept (t' := s1.toks) fun b o e => Heap.get?_push_of_some _ e, turn_list ad _, ⟨_, Heap.get?_push_size _ rfl, rfl, rfl⟩, fun b hb => ?_, q⟩
    have e : b = s1.heap.objs.size := by simpa using hb
    subst e
    exact I1.fpOk (Nat.le_refl _) (I1.hok.fresh (Nat.le_refl _))
  · obtain ⟨its, rv, pl, hz⟩ := I1.tuple hq
    refine wpAny_pyIter_tuple (show s1.heap.IsTuple ad its.toArray from pl) ?_
    refine ⟨s1.heap.objs.size, [s1.heap.objs.size], _, _, H1, rfl, I1.kept (t' := s1.toks) fun b o e => Heap.get?_push_of_some _ e, turn_tuple ad _, ⟨_, Heap.get?_push_size _ rfl, rfl, rfl⟩, fun b hb => ?_, q⟩
    have e : b = s1.heap.objs.size := by simpa using hb
    subst e
    exact I1.fpOk (Nat.le_refl _) (I1.hok.fresh (Nat.le_refl _))
/-- behind a part: what an iterator's text comes to -/
theorem tI_bind {s : Type} {t : Type} {R : Wd → Hp → t → s → Prop} {r : Out (s × En)} {kk : s × En → Out (List D × En)} {G : Gh} {σ : L2.St} {H : Hp} {Q : It → Hp → Prop}
    (h : match r.bind kk with
      | .ok (ds, e1) => ∀ J H' G' P, Step c G H G' H' → Ok c G' σ H' e1 → Src c J ds P → P G' H' → Q J H'
      | .err x => ∀ C H', c.mg x = some (.ref C) → Fr c H' → Wx (.ref C) none σ H'
      | .bad => False) :
    Post R c Wx G σ H r fun v H1 => ∃ G1 d e1, Step c G H G1 H1 ∧ Ok c G1 σ H1 e1 ∧ R (c.wd G1) H1 v d ∧ (match kk (d, e1) with
      | .ok (ds, e1) => ∀ J H' G' P, Step c G1 H1 G' H' → Ok c G' σ H' e1 → Src c J ds P → P G' H' → Q J H'
      | .err x => ∀ C H', c.mg x = some (.ref C) → Fr c H' → Wx (.ref C) none σ H'
      | .bad => False) := by
  cases r with
  | ok p =>
    obtain ⟨d, e⟩ := p
    intro v H1 G1 st ok r
    refine ⟨G1, d, e, st, ok, r, ?_⟩
    dsimp only [Out.bind] at h
    revert h
    cases kk (d, e) with
    | ok p => obtain ⟨d2, e2⟩ := p; exact fun h J H' G' P a b c p => h J H' G' P (st.trans a) b c p
    | err x => exact fun h => h
    | bad => exact fun h => h
  | err x => exact h
  | bad => exact h
theorem i_seq (hK : X.K = c.K) (ha : PE X a (tV c Wx f)) : PI X tgt a (tI c Wx fun e => (f e).bind fun (x, e1) => (itemsD x).at e1) := by
  refine PI.imp (pi_seq ha) fun σ H R hq => ?_
  obtain ⟨G, e, ok, p⟩ := hq
  refine ⟨G, e, ok, (tI_bind (R := Rep) p).mono fun x H1 ⟨G1, d1, e1, st1, ok1, r1, p1⟩ => ?_⟩
  dsimp only at p1
  cases d1 with
  | list ds =>
    have r0 := r1
    cases r1 with
    | @lst ad xs _ n h rr => exact ⟨ad, xs, rfl, .inl ⟨.inl (.inl h), p1 _ H1 G1 _ (.refl _ _ _) ok1 (src_list (G0 := G1) (H0 := H1) (xs := xs)) r0⟩⟩
  | tuple ds =>
    have r0 := r1
    cases r1 with
    | @tup ad xs _ h rr => exact ⟨ad, xs, rfl, .inr ⟨by rw [hK]; exact h, p1 _ H1 G1 _ (.refl _ _ _) ok1 (src_tup hK) r0⟩⟩
  | _ => exact p1.elim
theorem rngL_get (n : Nat) : ∀ (lo : Int) (i : Nat), (rngL lo n)[i]? = if i < n then some (.int (lo + i)) else none := by
  induction n with
  | zero => intro lo i; simp [rngL]
  | succ n ih =>
    intro lo i
    cases i with
    | zero => simp [rngL]
    | succ i =>
      simp only [rngL, List.getElem?_cons_succ, ih]
      by_cases h : i < n
      · rw [if_pos h, if_pos (by omega)]
        congr 2; omega
      · rw [if_neg h, if_neg (by omega)]
theorem rngL_len (n : Nat) : ∀ lo : Int, (rngL lo n).length = n := by
  induction n with
  | zero => intro lo; rfl
  | succ n ih => intro lo; simp [rngL, ih]
theorem src_rng {lo : Int} {n : Nat} : Src c (Itr lo n) (rngL lo n) (fun _ _ => True) where
  stay := fun _ _ _ => trivial
  go := fun i _ hi => by rw [rngL_len] at hi; exact hi
  stop := fun i _ hi => by rw [rngL_len] at hi; exact hi
  yld := fun i d hz r y e => by
    obtain ⟨rfl, rfl⟩ := y
    rw [rngL_get] at e
    split at e
    · cases e; exact ⟨.refl _, .int _⟩
    · cases e
theorem i_rng1 (hg : Gl X "range") (hm : X.mg "range" = none) (hs : noStar a = true) (ha : PE X a (tV c Wx f)) : PI X tgt (.Call (.Name "range" p) [a] [] pos) (tI c Wx fun e => (f e).bind fun (x, e1) => (rngD (.int 0) x).at e1) := by
  refine PI.imp (pi_range1 hg hm (pa_cons ha pa_nil (star_cons hs)) (by rw [star_cons hs]; rfl)) fun σ H R hq => ?_
  obtain ⟨G, e, ok, p⟩ := hq
  refine ⟨G, e, ok, (tI_bind (R := Rep) p).mono fun x H1 ⟨G1, d1, e1, st1, ok1, r1, p1⟩ => ?_⟩
  dsimp only at p1
  cases d1 with
  | int j =>
    cases r1
    dsimp only [rngD] at p1
    split at p1
    · rename_i heq
      split at heq
      · rename_i hb
        cases heq
        rw [show j - 0 = j by omega] at p1
        exact ⟨j, rfl, by omega, by omega, p1 _ H1 G1 _ (.refl _ _ _) ok1 src_rng trivial⟩
      · cases heq
    · rename_i heq
      split at heq <;> cases heq
    · exact p1.elim
  | _ => exact p1.elim
theorem i_rng2 (hg : Gl X "range") (hm : X.mg "range" = none) (hs : noStar a = true) (hs2 : noStar d = true) (ha : PE X a (tV c Wx f)) (hd : PE X d (tV c Wx g)) :
    PI X tgt (.Call (.Name "range" p) [a, d] [] pos) (tI c Wx fun e => (f e).bind fun (x, e1) => (g e1).bind fun (y, e2) => (rngD x y).at e2) := by
  refine PI.imp (pi_range2 hg hm (pa_cons ha (pa_cons hd pa_nil (star_cons hs2)) (star_cons hs)) (by rw [star_cons hs, star_cons hs2]; rfl) (by rw [star_cons hs2]; rfl)) fun σ H R hq => ?_
  obtain ⟨G, e, ok, p⟩ := hq
  refine ⟨G, e, ok, (tI_bind (R := Rep) p).mono fun x H1 ⟨G1, d1, e1, st1, ok1, r1, p1⟩ => ⟨G1, e1, ok1, (tI_bind (R := Rep) p1).mono fun y H2 ⟨G2, d2, e2, st2, ok2, r2, p2⟩ => ?_⟩⟩
  dsimp only at p2
  cases d1 with
  | int i =>
    cases r1
    cases d2 with
    | int j =>
      cases r2
      dsimp only [rngD] at p2
      split at p2
      · rename_i heq
        split at heq
        · rename_i hb
          cases heq
          exact ⟨i, j, rfl, ⟨by omega, by omega, by omega, by omega⟩, p2 _ H2 G2 _ (.refl _ _ _) ok2 src_rng trivial⟩
        · cases heq
      · rename_i heq
        split at heq <;> cases heq
      · exact p2.elim
    | _ => exact p2.elim
  | _ => exact p2.elim
theorem enumL_get : ∀ (ds : List D) (k : Int) (i : Nat), (enumL k ds)[i]? = (ds[i]?).map fun d => .tuple [.int (k + i), d]
  | [], _, _ => by simp [enumL]
  | d :: ds, k, 0 => by simp [enumL]
  | d :: ds, k, i + 1 => by
    simp only [enumL, List.getElem?_cons_succ, enumL_get ds]
    congr 1; funext x; congr 3; omega
theorem enumL_len : ∀ (ds : List D) (k : Int), (enumL k ds).length = ds.length
  | [], _ => rfl
  | _ :: ds, k => by simp [enumL, enumL_len ds]
theorem src_enum {ad : Addr} {ds : List D} {K : PySem.W.Frag} : Src c (Ite K ad) (enumL 0 ds) (fun G H => Rep (c.wd G) H (.ref ad) (.list ds)) where
  stay := fun hz r s => s.rep hz r
  go := fun i r hi => by
    rw [enumL_len] at hi
    cases r with
    | @lst _ ys _ n h rr =>
      obtain ⟨v, e, _⟩ := rr.get (List.getElem?_eq_getElem hi)
      exact ⟨ys, v, .inl (.inl h), e⟩
  stop := fun i r hi => by
    rw [enumL_len] at hi
    cases r with
    | @lst _ ys _ n h rr => exact ⟨ys, .inl (.inl h), by rw [rr.length]; exact hi⟩
  yld := fun i d hz r y e => by
    obtain ⟨T, x, rfl, hT, rfl, y⟩ := y
    rw [enumL_get] at e
    cases r with
    | @lst _ ys _ n h rr =>
      cases q : ds[i]? with
      | none => rw [q] at e; cases e
      | some dd =>
        rw [q] at e; cases e
        obtain ⟨v, e1, r1⟩ := rr.get q
        have := y ys (.inl (.inl h))
        rw [this] at e1; cases e1
        rw [show (0 : Int) + (i : Int) = ((i : Nat) : Int) by omega]
        exact ⟨same_upd hT, rep_tup hz hT (.cons (.int _) (.cons r1 .nil))⟩
theorem i_enum {elts : List Expr} {kk : Nat} {tpos : Pos} (hK : X.K = c.K) (hg : Gl X "enumerate") (hm : X.mg "enumerate" = none) (hs : noStar a = true) (ha : PE X a (tV c Wx f)) :
    PI X (.Tuple elts kk tpos) (.Call (.Name "enumerate" p) [a] [] pos) (tI c Wx fun e => (f e).bind fun (x, e1) => (enumD x).at e1) := by
  refine PI.imp (pi_enum hg hm (pa_cons ha pa_nil (star_cons hs)) (by rw [star_cons hs]; rfl)) fun σ H R hq => ?_
  obtain ⟨G, e, ok, p⟩ := hq
  refine ⟨G, e, ok, (tI_bind (R := Rep) p).mono fun x H1 ⟨G1, d1, e1, st1, ok1, r1, p1⟩ => ?_⟩
  dsimp only at p1
  cases d1 with
  | list ds =>
    have r0 := r1
    cases r1 with
    | @lst ad xs _ n h rr => exact ⟨ad, xs, rfl, .inl (.inl h), p1 _ H1 G1 _ (.refl _ _ _) ok1 src_enum r0⟩
  | _ => exact p1.elim
theorem zipL_get : ∀ (ds es : List D) (i : Nat), (zipL ds es)[i]? = (match ds[i]?, es[i]? with
    | some a, some b => some (.tuple [a, b])
    | _, _ => none)
  | [], _, _ => by simp [zipL]
  | _ :: _, [], i => by
    simp only [zipL, List.getElem?_nil]
    split
    · rename_i h; cases h
    · rfl
  | d :: ds, e :: es, 0 => by simp [zipL]
  | d :: ds, e :: es, i + 1 => by simp [zipL, zipL_get ds es]
theorem zipL_len : ∀ (ds es : List D), (zipL ds es).length = min ds.length es.length
  | [], _ => by simp [zipL]
  | _ :: _, [] => by simp [zipL]
  | _ :: ds, _ :: es => by simp [zipL, zipL_len ds es]
theorem src_zip {ad bd : Addr} {ds es : List D} {K : PySem.W.Frag} : Src c (Itz K ad bd) (zipL ds es) (fun G H => Rep (c.wd G) H (.ref ad) (.list ds) ∧ Rep (c.wd G) H (.ref bd) (.list es)) where
  stay := fun hz r s => ⟨s.rep hz r.1, s.rep hz r.2⟩
  go := fun i r hi => by
    rw [zipL_len] at hi
    obtain ⟨r1, r2⟩ := r
    cases r1 with
    | @lst _ ys _ n h rr =>
      cases r2 with
      | @lst _ zs _ n2 h2 rr2 =>
        obtain ⟨v, e, _⟩ := rr.get (List.getElem?_eq_getElem (show i < ds.length by omega))
        obtain ⟨v2, e2, _⟩ := rr2.get (List.getElem?_eq_getElem (show i < es.length by omega))
        exact ⟨ys, zs, v, v2, .inl (.inl h), .inl (.inl h2), e, e2⟩
  stop := fun i r hi => by
    rw [zipL_len] at hi
    obtain ⟨r1, r2⟩ := r
    cases r1 with
    | @lst _ ys _ n h rr =>
      cases r2 with
      | @lst _ zs _ n2 h2 rr2 => exact ⟨ys, zs, .inl (.inl h), .inl (.inl h2), by rw [rr.length, rr2.length]; omega⟩
  yld := fun i d hz r y e => by
    obtain ⟨T, x1, y1, rfl, hT, rfl, ya, yb⟩ := y
    rw [zipL_get] at e
    obtain ⟨r1, r2⟩ := r
    cases r1 with
    | @lst _ ys _ n h rr =>
      cases r2 with
      | @lst _ zs _ n2 h2 rr2 =>
        split at e
        · rename_i qa qb
          cases e
          obtain ⟨v, e1, s1⟩ := rr.get qa
          obtain ⟨v2, e2, s2⟩ := rr2.get qb
          have t1 := ya ys (.inl (.inl h))
          have t2 := yb zs (.inl (.inl h2))
          rw [t1] at e1; cases e1
          rw [t2] at e2; cases e2
          exact ⟨same_upd hT, rep_tup hz hT (.cons s1 (.cons s2 .nil))⟩
        · cases e
theorem src_zipT {ad bd : Addr} {ds es : List D} {K : PySem.W.Frag} (hK : K = c.K) : Src c (RZ.ItzT K ad bd) (zipL ds es) (fun G H => Rep (c.wd G) H (.ref ad) (.tuple ds) ∧ Rep (c.wd G) H (.ref bd) (.tuple es)) where
  stay := fun hz r s => ⟨s.rep hz r.1, s.rep hz r.2⟩
  go := fun i r hi => by
    subst hK
    rw [zipL_len] at hi
    obtain ⟨r1, r2⟩ := r
    cases r1 with
    | @tup _ ys _ h rr =>
      cases r2 with
      | @tup _ zs _ h2 rr2 =>
        obtain ⟨v, e, _⟩ := rr.get (List.getElem?_eq_getElem (show i < ds.length by omega))
        obtain ⟨v2, e2, _⟩ := rr2.get (List.getElem?_eq_getElem (show i < es.length by omega))
        exact ⟨ys, zs, v, v2, h, h2, e, e2⟩
  stop := fun i r hi => by
    subst hK
    rw [zipL_len] at hi
    obtain ⟨r1, r2⟩ := r
    cases r1 with
    | @tup _ ys _ h rr =>
      cases r2 with
      | @tup _ zs _ h2 rr2 => exact ⟨ys, zs, h, h2, by rw [rr.length, rr2.length]; omega⟩
  yld := fun i d hz r y e => by
    subst hK
    obtain ⟨T, x1, y1, rfl, hT, rfl, ya, yb⟩ := y
    rw [zipL_get] at e
    obtain ⟨r1, r2⟩ := r
    cases r1 with
    | @tup _ ys _ h rr =>
      cases r2 with
      | @tup _ zs _ h2 rr2 =>
        split at e
        · rename_i qa qb
          cases e
          obtain ⟨v, e1, s1⟩ := rr.get qa
          obtain ⟨v2, e2, s2⟩ := rr2.get qb
          have t1 := ya ys h
          have t2 := yb zs h2
          rw [t1] at e1; cases e1
          rw [t2] at e2; cases e2
          exact ⟨same_upd hT, rep_tup hz hT (.cons s1 (.cons s2 .nil))⟩
        · cases e
theorem i_zip {elts : List Expr} {kk : Nat} {tpos : Pos} (hK : X.K = c.K) (hg : Gl X "zip") (hm : X.mg "zip" = none) (hs : noStar a = true) (hs2 : noStar d = true) (ha : PE X a (tV c Wx f)) (hd : PE X d (tV c Wx g)) :
    PI X (.Tuple elts kk tpos) (.Call (.Name "zip" p) [a, d] [] pos) (tI c Wx fun e => (f e).bind fun (x, e1) => (g e1).bind fun (y, e2) => (zipD x y).at e2) := by
  refine PI.imp (RZ.pi_zipA hg hm (pa_cons ha (pa_cons hd pa_nil (star_cons hs2)) (star_cons hs)) (star_cons hs) (star_all (by simp [hs2]))) fun σ H R hq => ?_
  obtain ⟨G, e, ok, p⟩ := hq
  refine ⟨G, e, ok, (tI_bind (R := Rep) p).mono fun x H1 ⟨G1, d1, e1, st1, ok1, r1, p1⟩ => ⟨G1, e1, ok1, (tI_bind (R := Rep) p1).mono fun y H2 ⟨G2, d2, e2, st2, ok2, r2, p2⟩ => ?_⟩⟩
  dsimp only at p2
  have r1 := st2.rep ok1.zl r1
  cases d1 with
  | list ds =>
    cases d2 with
    | list es =>
      have r10 := r1
      have r20 := r2
      cases r1 with
      | @lst ad xs _ n h rr =>
        cases r2 with
        | @lst bd ys _ n2 h2 rr2 => exact ⟨ad, bd, xs, ys, rfl, .inl ⟨.inl (.inl h), .inl (.inl h2), p2 _ H2 G2 _ (.refl _ _ _) ok2 src_zip ⟨r10, r20⟩⟩⟩
    | _ => exact p2.elim
  | tuple ds =>
    cases d2 with
    | tuple es =>
      have r10 := r1
      have r20 := r2
      cases r1 with
      | @tup ad xs _ h rr =>
        cases r2 with
        | @tup bd ys _ h2 rr2 => exact ⟨ad, bd, xs, ys, rfl, .inr ⟨by rw [hK]; exact h, by rw [hK]; exact h2, p2 _ H2 G2 _ (.refl _ _ _) ok2 (src_zipT hK) ⟨r10, r20⟩⟩⟩
    | _ => exact p2.elim
  | _ => exact p2.elim
end
end DV
set_option Elab.async false
set_option linter.all false
set_option maxRecDepth 100000
set_option maxHeartbeats 4000000
/-! New lists; what a statement leaves. -/
namespace DV
open PySem PySem.Spec PyProof.Rows L2

/-- the list at a is no one's yet -/
structure New (c : Ctx) (a : Addr) : Prop where
  own : c.B a ∨ ∀ o, c.H0 a = some o → isTbl o
  z : ¬ c.Z a
/-- a value that was come to: as data, or (k) a new list, that is held -/
def Gv (c : Ctx) (G0 G : Gh) (H : Hp) (k : Bool) (v : V) (d : D) : Prop := match k with
  | true => ∃ a vs ds, G.X = (a, vs) :: G0.X ∧ v = .ref a ∧ d = .list ds ∧ Reps (c.wd G) H vs ds ∧ New c a ∧ ∀ q ∈ G0.X, q.1 ≠ a
  | false => G.X = G0.X ∧ Rep (c.wd G) H v d
def PostW (c : Ctx) (Wx : WX) (k : Bool) (G : Gh) (σ : L2.St) (H : Hp) (r : Out (D × En)) (Q : VK) : Prop := match r with
  | .ok (d, e) => ∀ v H' G', G'.M = G.M → StepS c G H G' H' → Ok c G' σ H' e → Gv c G G' H' k v d → Q v H'
  | .err x => ∀ C H', c.mg x = some (.ref C) → Fr c H' → Wx (.ref C) none σ H'
  | .bad => False
def tW (c : Ctx) (Wx : WX) (k : Bool) (f : En → Out (D × En)) : TE := fun σ H Q => ∃ G e, Ok c G σ H e ∧ PostW c Wx k G σ H (f e) Q

section
variable {X : Cx} {c : Ctx} {Wx : WX} {G : Gh} {σ : L2.St} {H H' : Hp} {e : En} {x : Expr} {f : En → Out (D × En)}
theorem PostW.mono {k : Bool} {r : Out (D × En)} {Q Q' : VK} (h : PostW c Wx k G σ H r Q) (i : ∀ v H, Q v H → Q' v H) : PostW c Wx k G σ H r Q' := by
  cases r with
  | ok p => obtain ⟨d, e⟩ := p; exact fun v H' G' a b d r => i _ _ (h v H' G' a b d r)
  | err x => exact h
  | bad => exact h
theorem valF {Q : VK} (hq : tW c Wx false f σ H Q) : tV c Wx f σ H Q := by
  obtain ⟨G, e, ok, p⟩ := hq
  refine ⟨G, e, ok, ?_⟩
  cases q : f e with
  | ok r =>
    obtain ⟨d, e1⟩ := r
    rw [q] at p
    exact fun v H' G' st ok1 r => p v H' G' st.M st.s ok1 ⟨st.X, r⟩
  | err m => rw [q] at p; exact p
  | bad => rw [q] at p; exact p
theorem s_val (h : PE X x (tV c Wx f)) : PE X x (tW c Wx false f) := PE.imp h fun _ _ _ hq => valF hq
/-- fewer lists are held -/
theorem Ok.unpin {X' : List (Addr × List V)} (ok : Ok c G σ H e) (hs : ∀ p ∈ X', p ∈ G.X) : Ok c ⟨G.M, G.O, X'⟩ σ H e := by
  have zz : ∀ b, Zm c ⟨G.M, G.O, X'⟩ b → Zm c G b := fun b z => by
    rcases z with z | z | ⟨xs, z⟩
    · exact .inl z
    · exact .inr (.inl z)
    · exact .inr (.inr ⟨xs, hs _ z⟩)
  have st : StepS c G H ⟨G.M, G.O, X'⟩ H := ⟨rfl, fun b o h _ n => ⟨h, fun z => n (zz b z)⟩⟩
  refine ⟨ok.len, ok.lenM, fun i s q => ?_, ok.inj, ok.fr, fun b z => ok.zl b (zz b z), ok.own, ok.mine, fun p hp => ok.pin p (hs p hp), ok.arg, fun n k fs q => ?_⟩
  · obtain ⟨m, x, h1, h2, h3⟩ := ok.slot i s q
    refine ⟨m, x, h1, h2, ?_⟩
    cases s with
    | no => exact h3
    | val d => obtain ⟨a, v, b, r⟩ := h3; exact ⟨a, v, b, st.rep ok.zl r⟩
    | own ds => obtain ⟨a, vs, e1, e2, e3, r⟩ := h3; exact ⟨a, vs, e1, e2, e3, st.reps ok.zl r⟩
    | bag ds => obtain ⟨a, vs, e1, e2, e3, r⟩ := h3; exact ⟨a, vs, e1, e2, e3, st.reps ok.zl r⟩
  · obtain ⟨a, dx, vs, e1, e2, e3, e4⟩ := ok.obs n k fs q
    exact ⟨a, dx, vs, e1, e2, e3, st.reps ok.zl e4⟩
theorem hide_zm {a : Addr} {vs : List V} {b : Addr} (z : Zm c ⟨G.M, G.O, (a, vs) :: G.X⟩ b) : Zm c G b ∨ b = a := by
  rcases z with z | z | ⟨xs, z⟩
  · exact .inl (.inl z)
  · exact .inl (.inr (.inl z))
  · rcases List.mem_cons.mp z with z | z
    · cases z; exact .inr rfl
    · exact .inl (.inr (.inr ⟨xs, z⟩))
theorem hide_step {a : Addr} {vs : List V} (hn : ∀ o, H a = some o → isTbl o) (x : Ext H H') : StepS c G H ⟨G.M, G.O, (a, vs) :: G.X⟩ H' := by
  refine ⟨rfl, fun b o h d n => ⟨x b o h (nt_dat d), fun z => ?_⟩⟩
  rcases hide_zm z with z | rfl
  · exact n z
  · exact nt_dat d (hn o h)
/-- a new list is held -/
theorem Ok.hide {a : Addr} {vs : List V} (ok : Ok c G σ H e) (hn : ∀ o, H a = some o → isTbl o) (x : Ext H H') (ht : LamX.Tabs c.T H') (ha : H' a = some (.lst vs)) : Ok c ⟨G.M, G.O, (a, vs) :: G.X⟩ σ H' e := by
  have st : StepS c G H ⟨G.M, G.O, (a, vs) :: G.X⟩ H' := hide_step hn x
  have na : ¬ Zm c G a := fun z => by obtain ⟨ys, q⟩ := ok.zl a z; exact hn _ q
  refine ⟨ok.len, ok.lenM, fun i s q => ?_, ok.inj, ok.fr.ext x ht, fun b z => ?_, ok.own, ok.mine, fun p hp => ?_, ok.arg, fun n k fs q => ?_⟩
  · obtain ⟨m, y, h1, h2, h3⟩ := ok.slot i s q
    refine ⟨m, y, h1, h2, ?_⟩
    cases s with
    | no => exact h3
    | val d => obtain ⟨a, v, b, r⟩ := h3; exact ⟨a, v, b, st.rep ok.zl r⟩
    | own ds => obtain ⟨a, vs, e1, e2, e3, r⟩ := h3; exact ⟨a, vs, e1, e2, x _ _ e3 fun t => t, st.reps ok.zl r⟩
    | bag ds => obtain ⟨a, vs, e1, e2, e3, r⟩ := h3; exact ⟨a, vs, e1, e2, x _ _ e3 fun t => t, st.reps ok.zl r⟩
  · rcases hide_zm z with z | rfl
    · exact x.zl ok.zl b z
    · exact ⟨_, ha⟩
  · rcases List.mem_cons.mp hp with rfl | hp
    · exact ⟨ha, fun j h => na (.inr (.inl (mem_M h)))⟩
    · exact ⟨x p.1 _ (ok.pin p hp).1 fun t => t, (ok.pin p hp).2⟩
  · obtain ⟨a, dx, vs, e1, e2, e3, e4⟩ := ok.obs n k fs q
    exact ⟨a, dx, vs, e1, x _ _ e2 fun t => t, e3, st.reps ok.zl e4⟩
theorem new_of {a : Addr} (ok : Ok c G σ H e) (hn : ∀ o, H a = some o → isTbl o) : New c a ∧ ∀ q ∈ G.X, q.1 ≠ a := by
  have na : ¬ Zm c G a := fun z => by obtain ⟨ys, q⟩ := ok.zl a z; exact hn _ q
  refine ⟨⟨?_, fun z => na (.inl z)⟩, fun q hq z => na (.inr (.inr ⟨q.2, ?_⟩))⟩
  · by_cases hb : c.B a
    · exact .inl hb
    · refine .inr fun o h => ?_
      by_cases ht : isTbl o
      · exact ht
      · exact hn o (ok.fr.1 a o h ht hb)
  · rw [← z]; exact hq
/-- a new list, as data -/
theorem unF {Q : VK} (hq : tV c Wx f σ H Q) : tW c Wx true f σ H Q := by
  obtain ⟨G, e, ok, p⟩ := hq
  refine ⟨G, e, ok, ?_⟩
  cases q : f e with
  | ok r =>
    obtain ⟨d, e1⟩ := r
    rw [q] at p
    intro v H' G' hM st ok1 g
    obtain ⟨a, vs, ds, gx, rfl, rfl, rr, nw, ne⟩ := g
    have sub : ∀ p ∈ G.X, p ∈ G'.X := fun p hp => by rw [gx]; exact List.mem_cons_of_mem _ hp
    have ok2 : Ok c ⟨G'.M, G'.O, G.X⟩ σ H' e1 := ok1.unpin sub
    have hp := ok1.pin (a, vs) (by rw [gx]; exact List.mem_cons_self)
    have zz : Zm c ⟨G'.M, G'.O, G.X⟩ = Zm c G := by unfold Zm; dsimp only; rw [hM]
    refine p (.ref a) H' ⟨G'.M, G'.O, G.X⟩ ⟨hM, rfl, st.O, fun b o h d n => (st.keep b o h d n).1⟩ ok2 (.lst (fun z => ?_) hp.1 ?_)
    · rcases (show Zm c ⟨G'.M, G'.O, G.X⟩ a from z) with z | z | ⟨xs, z⟩
      · exact nw.z z
      · obtain ⟨j, hj⟩ := List.getElem?_of_mem z
        exact hp.2 j hj
      · exact ne _ z rfl
    · refine Reps.keep (W := c.wd G') (W' := c.wd ⟨G'.M, G'.O, G.X⟩) rfl (fun b z => .inl ?_) (fun _ _ h => h) ok1.zl (.refl _ _) rr
      rcases (show Zm c ⟨G'.M, G'.O, G.X⟩ b from z) with z | z | ⟨xs, z⟩
      · exact .inl z
      · exact .inr (.inl z)
      · exact .inr (.inr ⟨xs, sub _ z⟩)
  | err m => rw [q] at p; exact p
  | bad => rw [q] at p; exact p
theorem s_unF (h : PE X x (tW c Wx true f)) : PE X x (tV c Wx f) := PE.imp h fun _ _ _ hq => unF hq
end
section
variable {X : Cx} {c : Ctx} {Wx : WX} {k : Nat} {a b d : Expr} {es : List Expr} {fs : En → Out (List D × En)} {pos p : Pos} {x : Str}
theorem s_lstF (h : PA X es (tAs c Wx fs)) : PE X (.List es pos) (tW c Wx true fun e => (fs e).bind fun (xs, e1) => if xs.length ≤ 16777216 then .ok (.list xs, e1) else .bad) := by
  refine PE.imp (pe_lst h) fun σ H Q hq => ?_
  obtain ⟨G, e, ok, p⟩ := hq
  refine ⟨G, e, ok, ?_⟩
  dsimp only at p
  cases q : fs e with
  | ok r =>
    obtain ⟨ds, e1⟩ := r
    rw [q] at p
    dsimp only [Out.bind] at p
    intro vs H1 G1 st ok1 rr
    by_cases hl : ds.length ≤ 16777216
    · rw [if_pos hl] at p
      refine ⟨by rw [sz, rr.length]; exact hl, fun q hq => ?_⟩
      have hn : ∀ o, H1 q = some o → isTbl o := fun o z => by rw [hq] at z; cases z
      obtain ⟨nw, ne⟩ := new_of ok1 hn
      have s2 : StepS c G1 H1 ⟨G1.M, G1.O, (q, vs) :: G1.X⟩ (upd H1 q (.lst vs)) := hide_step hn (.of (same_upd hq))
      refine p (.ref q) _ ⟨G1.M, G1.O, (q, vs) :: G1.X⟩ st.M (st.s.trans s2) (ok1.hide hn (.of (same_upd hq)) (ok1.fr.2.ext (same_upd hq)) upd_same) ⟨q, vs, ds, by rw [← st.X], rfl, rfl, s2.reps ok1.zl rr, nw, fun z hz => ne z (by rw [st.X]; exact hz)⟩
    · rw [if_neg hl] at p; exact p.elim
  | err m => rw [q] at p; exact p
  | bad => rw [q] at p; exact p
theorem s_catF {fa fb : En → Out (D × En)} (ha : PE X a (tV c Wx fa)) (hb : PE X b (tV c Wx fb)) : PE X (.BinOp a .Add b pos) (tW c Wx true fun e => (fa e).bind fun (x, e1) => (fb e1).bind fun (y, e2) => (catD x y).at e2) := by
  refine PE.imp (pe_op op_cat ha hb) fun σ H Q ⟨G, e, ok, p⟩ => ⟨G, e, ok, ?_⟩
  dsimp only at p
  cases q : fa e with
  | err m => rw [q] at p; exact p
  | bad => rw [q] at p; exact p
  | ok r =>
    obtain ⟨d1, e1⟩ := r
    rw [q] at p
    dsimp only [Out.bind] at p
    intro v H1 G1 st1 ok1 r1
    refine ⟨G1, e1, ok1, ?_⟩
    cases q2 : fb e1 with
    | err m => rw [q2] at p; exact p
    | bad => rw [q2] at p; exact p
    | ok r =>
      obtain ⟨d2, e2⟩ := r
      rw [q2] at p
      dsimp only at p
      intro w H2 G2 st2 ok2 r2
      cases d1 with
      | list xs =>
        cases d2 with
        | list ys =>
          unfold catD at p
          by_cases hl : xs.length + ys.length ≤ 16777216
          · simp only [if_pos hl] at p
            have r1 := st2.rep ok1.zl r1
            cases r1 with
            | @lst l1 vs1 _ n1 h1 k1 =>
              cases r2 with
              | @lst l2 vs2 _ n2 h2 k2 =>
                refine ⟨l1, l2, vs1, vs2, rfl, rfl, h1, h2, by rw [sz, k1.length, k2.length]; exact hl, fun q hq => ?_⟩
                have hn : ∀ o, H2 q = some o → isTbl o := fun o z => by rw [hq] at z; cases z
                obtain ⟨nw, ne⟩ := new_of ok2 hn
                have s2 : StepS c G2 H2 ⟨G2.M, G2.O, (q, vs1 ++ vs2) :: G2.X⟩ (upd H2 q (.lst (vs1 ++ vs2))) := hide_step hn (.of (same_upd hq))
                have hX : G2.X = G.X := st2.X.trans st1.X
                exact p (.ref q) _ ⟨G2.M, G2.O, (q, vs1 ++ vs2) :: G2.X⟩ (st2.M.trans st1.M) ((st1.s.trans st2.s).trans s2) (ok2.hide hn (.of (same_upd hq)) (ok2.fr.2.ext (same_upd hq)) upd_same) ⟨q, vs1 ++ vs2, xs ++ ys, by rw [← hX], rfl, rfl, s2.reps ok2.zl (k1.append k2), nw, fun z hz => ne z (by rw [hX]; exact hz)⟩
          · simp only [if_neg hl] at p
            exact p.elim
        | _ => exact p.elim
      | _ => exact p.elim
theorem s_callFF {u : List D → Out (List D)} (hK : X.K = c.K) (hmg : X.mg = c.mg) (tk : L2N.Takes X Wx) (hr : Room k X.A) (F : CallOk X k x (spF c.K c.mg c.T u)) (hg : Gl X x) (hdb : (x == ("__debug__" : Str)) = false) (hs : noStar a = true) (hss : es.all noStar = true)
    (h : PA X (a :: es) (tAs c Wx fs)) : PE X (.Call (.Name x p) (a :: es) [] pos) (tW c Wx true fun e => (fs e).bind fun (xs, e1) => ((u xs).map PyData.list).at e1) := by
  obtain ⟨ad, fd, ps, F, m, kp, bn⟩ := F
  refine PE.imp (pe_callS F hr hg m kp bn (L2N.passAt tk) h hdb (star_cons hs) (star_all hss)) fun σ H Q hq => ?_
  obtain ⟨G, e, ok, p⟩ := hq
  refine ⟨G, e, ok, ?_⟩
  dsimp only at p
  cases q : fs e with
  | ok r =>
    obtain ⟨ds, e1⟩ := r
    rw [q] at p
    dsimp only [Out.bind] at p
    intro vs H1 G1 st ok1 rr
    refine ⟨c.wd G1, ds, rfl, ok1.fr.2, ok1.zl, rr, ?_⟩
    cases qu : u ds with
    | ok xs =>
      rw [qu] at p
      intro a H' ys hn x ht ha r2
      obtain ⟨nw, ne⟩ := new_of ok1 hn
      have s2 : StepS c G1 H1 ⟨G1.M, G1.O, (a, ys) :: G1.X⟩ H' := hide_step hn x
      refine p (.ref a) H' ⟨G1.M, G1.O, (a, ys) :: G1.X⟩ st.M (st.s.trans s2) (ok1.hide hn x ht ha) ⟨a, ys, xs, by rw [← st.X], rfl, rfl, ?_, nw, fun z hz => ne z (by rw [st.X]; exact hz)⟩
      refine Reps.keep (W := ⟨c.K, fun b => Zm c G1 b ∨ b = a, G1.O⟩) (W' := c.wd ⟨G1.M, G1.O, (a, ys) :: G1.X⟩) rfl (fun b z => .inl (hide_zm z)) (fun _ _ h => h) (fun b z => ?_) (.refl _ _) r2
      rcases z with z | rfl
      · exact x.zl ok1.zl b z
      · exact ⟨_, ha⟩
    | err m => rw [qu] at p; exact fun C H' hm x t => p C H' hm (ok1.fr.ext x t)
    | bad => rw [qu] at p; exact p
  | err m => rw [q] at p; exact p
  | bad => rw [q] at p; exact p
end

/-! ### the slot i gets such a value -/
def Kd.fr : Kd → Bool
  | .val => false
  | _ => true
section
variable {c : Ctx} {G G0 : Gh} {σ : L2.St} {H H' : Hp} {e : En}
theorem Gv.step {G' : Gh} {k : Bool} {v : V} {d : D} (g : Gv c G0 G H k v d) (hz : ZL (Zm c G) H) (s : StepS c G H G' H') (hX : G'.X = G.X) : Gv c G0 G' H' k v d := by
  cases k with
  | true =>
    obtain ⟨a, vs, ds, gx, e1, e2, rr, nw, ne⟩ := g
    exact ⟨a, vs, ds, by rw [hX, gx], e1, e2, s.reps hz rr, nw, ne⟩
  | false => exact ⟨hX.trans g.1, s.rep hz g.2⟩
theorem Ok.claim {i : Nat} {a : Addr} {vs : List V} {ds : List D} {X' : List (Addr × List V)} {S : Slot} (ok : Ok c G σ H e) (hf : e.free i = true) (gx : G.X = (a, vs) :: X') (r : Reps (c.wd G) H vs ds) (nw : New c a) (ne : ∀ q ∈ X', q.1 ≠ a) (hS : S = .own ds) :
    Ok c ⟨G.M.set i (some a), G.O, X'⟩ (σ.set i (some (.ref a))) H (e.put i S) ∧ StepS c G H ⟨G.M.set i (some a), G.O, X'⟩ H := by
  have hi := (free_lt hf).1
  have hiσ : i < σ.length := by rw [← ok.len]; exact hi
  have hiM : i < G.M.length := by rw [ok.lenM]; exact hiσ
  have ma : (a, vs) ∈ G.X := by rw [gx]; exact List.mem_cons_self
  have pa := ok.pin (a, vs) ma
  have zz : ∀ b, Zm c ⟨G.M.set i (some a), G.O, X'⟩ b → Zm c G b := fun b z => by
    rcases z with z | z | ⟨xs, z⟩
    · exact .inl z
    · rcases mem_set z with z | z
      · exact .inr (.inl z)
      · cases z; exact .inr (.inr ⟨vs, ma⟩)
    · exact .inr (.inr ⟨xs, by rw [gx]; exact List.mem_cons_of_mem _ z⟩)
  have st : StepS c G H ⟨G.M.set i (some a), G.O, X'⟩ H := ⟨rfl, fun b o h _ n => ⟨h, fun z => n (zz b z)⟩⟩
  refine ⟨⟨by simpa [En.put] using ok.len, by simpa using ok.lenM, fun j s q => ?_, fun j k b h1 h2 => ?_, ok.fr, fun b z => ok.zl b (zz b z), fun j b h => ?_, fun j ds' b q h => ?_, fun p hp => ⟨(ok.pin p (by rw [gx]; exact List.mem_cons_of_mem _ hp)).1, fun j h => ?_⟩, ok.argSet hf fun j h => List.getElem?_set_ne h, fun n k fs q => ?_⟩, st⟩
  · rcases set_get q with ⟨rfl, rfl, _⟩ | ⟨nj, q⟩
    · refine ⟨some a, some (.ref a), List.getElem?_set_self hiM, List.getElem?_set_self hiσ, ?_⟩
      subst hS
      exact ⟨a, vs, rfl, rfl, pa.1, st.reps ok.zl r⟩
    · obtain ⟨m, x, h1, h2, h3⟩ := ok.slot j s q
      refine ⟨m, x, by rw [List.getElem?_set_ne (Ne.symm nj)]; exact h1, by rw [List.getElem?_set_ne (Ne.symm nj)]; exact h2, ?_⟩
      cases s with
      | no => exact h3
      | val d => obtain ⟨a, v, b, r⟩ := h3; exact ⟨a, v, b, st.rep ok.zl r⟩
      | own ds => obtain ⟨a, vs, e1, e2, e3, r⟩ := h3; exact ⟨a, vs, e1, e2, e3, st.reps ok.zl r⟩
      | bag ds => obtain ⟨a, vs, e1, e2, e3, r⟩ := h3; exact ⟨a, vs, e1, e2, e3, st.reps ok.zl r⟩
  · rcases set_get h1 with ⟨z1, y1, _⟩ | ⟨n1, h1⟩
    · cases y1
      rcases set_get h2 with ⟨z2, _, _⟩ | ⟨n2, h2⟩
      · rw [z1, z2]
      · exact absurd h2 (pa.2 k)
    · rcases set_get h2 with ⟨z2, y2, _⟩ | ⟨n2, h2⟩
      · cases y2; exact absurd h1 (pa.2 j)
      · exact ok.inj j k b h1 h2
  · rcases set_get h with ⟨_, z, _⟩ | ⟨_, h⟩
    · cases z; exact nw.own
    · exact ok.own j b h
  · rcases set_get h with ⟨_, z, _⟩ | ⟨nj, h⟩
    · cases z; exact nw.z
    · have q : (e.sl.set i S)[j]? = some (.own ds') := q
      rw [List.getElem?_set_ne (Ne.symm nj)] at q
      exact ok.mine j ds' b q h
  · rcases set_get h with ⟨_, z, _⟩ | ⟨_, h⟩
    · cases z; exact ne p hp rfl
    · exact (ok.pin p (by rw [gx]; exact List.mem_cons_of_mem _ hp)).2 j h
  · obtain ⟨b, dx, ws, e1, e2, e3, e4⟩ := ok.obs n k fs q
    exact ⟨b, dx, ws, e1, e2, e3, st.reps ok.zl e4⟩
theorem Ok.setK {i : Nat} {k : Kd} {v : V} {d : D} {s : Slot} (ok : Ok c G σ H e) (hi : e.free i = true) (g : Gv c G0 G H k.fr v d) (hs : k.slot d = .ok s) :
    ∃ G', Ok c G' (σ.set i (some v)) H (e.put i s) ∧ StepS c G H G' H ∧ G'.X = G0.X := by
  cases k with
  | val =>
    cases hs
    exact ⟨_, ok.set hi g.2, .drop i, g.1⟩
  | own =>
    obtain ⟨a, vs, ds, gx, rfl, rfl, rr, nw, ne⟩ := g
    cases hs
    obtain ⟨o, st⟩ := ok.claim hi gx rr nw ne rfl
    exact ⟨_, o, st, rfl⟩
end
end DV
set_option Elab.async false
set_option linter.all false
set_option maxRecDepth 100000
set_option maxHeartbeats 4000000
/-! Statements by what they come to. -/
namespace DV
open PySem PySem.Spec PyProof.Rows L2

def PostS (c : Ctx) (Wx : WX) (G : Gh) (H : Hp) (r : SO) (E : Ends) : Prop := match r with
  | .next e => ∀ σ' H' G', StepS c G H G' H' → Ok c G' σ' H' e → E.nx σ' H'
  | .brk e => ∀ σ' H' G', StepS c G H G' H' → Ok c G' σ' H' e → E.bk σ' H'
  | .ret d e => ∀ σ' v H' G', StepS c G H G' H' → Ok c G' σ' H' e → Rep (c.wd G') H' v d → E.rt v H'
  | .retf ds e => ∀ σ' v H' G0 G', StepS c G H G' H' → Ok c G' σ' H' e → Gv c G0 G' H' true v (.list ds) → E.rt v H'
  | .reto i e => ∀ σ' v H' G', StepS c G H G' H' → Ok c G' σ' H' e → σ'[i]? = some (some v) → E.rt v H'
  | .err x => ∀ C σ' H', c.mg x = some (.ref C) → Fr c H' → Wx (.ref C) none σ' H'
  | .bad => False
def tS (c : Ctx) (Wx : WX) (f : En → SO) : TS := fun E σ H => ∃ G e, Ok c G σ H e ∧ PostS c Wx G H (f e) E
/-- nothing is raised -/
abbrev Wn : WX := fun _ _ _ _ => False
section
variable {X : Cx} {c : Ctx} {Wx : WX} {G G' : Gh} {σ : L2.St} {H H' : Hp} {E E' : Ends}
theorem PostS.trans {r : SO} (h : PostS c Wx G H r E) (s : StepS c G H G' H') : PostS c Wx G' H' r E := by
  cases r with
  | next e => exact fun a b d st ok => h a b d (s.trans st) ok
  | brk e => exact fun a b d st ok => h a b d (s.trans st) ok
  | ret v e => exact fun a b d g st ok => h a b d g (s.trans st) ok
  | retf v e => exact fun a b d g g' st ok => h a b d g g' (s.trans st) ok
  | reto v e => exact fun a b d g st ok => h a b d g (s.trans st) ok
  | err x => exact h
  | bad => exact h
theorem PostS.noErr {Wy : WX} {r : SO} (h : PostS c Wx G H r.noErr E) : PostS c Wy G H r E := by
  cases r with
  | err x => exact h.elim
  | bad => exact h.elim
  | _ => exact h
/-- behind an expression -/
theorem PostS.so {s t : Type} {R : Wd → Hp → t → s → Prop} {r : Out (s × En)} {k : s × En → SO} (h : PostS c Wx G H (r.so k) E) :
    Post R c Wx G σ H r fun v H1 => ∃ G1 d e1, Step c G H G1 H1 ∧ Ok c G1 σ H1 e1 ∧ R (c.wd G1) H1 v d ∧ PostS c Wx G1 H1 (k (d, e1)) E := by
  cases r with
  | ok p =>
    obtain ⟨d, e⟩ := p
    intro v H1 G1 st ok rr
    have h : PostS c Wx G H (k (d, e)) E := h
    exact ⟨G1, d, e, st, ok, rr, h.trans st.s⟩
  | err x => exact fun C H' hm f => h C σ H' hm f
  | bad => exact h
theorem PostS.soW {kk : Bool} {r : Out (D × En)} {k : D × En → SO} (h : PostS c Wx G H (r.so k) E) :
    PostW c Wx kk G σ H r fun v H1 => ∃ G1 d e1, G1.M = G.M ∧ StepS c G H G1 H1 ∧ Ok c G1 σ H1 e1 ∧ Gv c G G1 H1 kk v d ∧ PostS c Wx G1 H1 (k (d, e1)) E := by
  cases r with
  | ok p =>
    obtain ⟨d, e⟩ := p
    intro v H1 G1 hM st ok rr
    have h : PostS c Wx G H (k (d, e)) E := h
    exact ⟨G1, d, e, hM, st, ok, rr, h.trans st⟩
  | err x => exact fun C H' hm f => h C σ H' hm f
  | bad => exact h
/-- behind an answer that needs no state -/
theorem PostS.so0 {s : Type} {r : Out s} {k : s → SO} (h : PostS c Wx G H (r.so k) E) (ne : ∀ m, r ≠ .err m) : ∃ x, r = .ok x ∧ PostS c Wx G H (k x) E := by
  cases r with
  | ok x => exact ⟨x, rfl, h⟩
  | err m => exact (ne m rfl).elim
  | bad => exact h.elim
theorem own_ne {e : En} {i : Nat} {m : Str} : e.getOwn i ≠ .err m := by
  unfold En.getOwn; split <;> exact fun z => nomatch z
theorem free_put {e : En} {i j : Nat} {s : Slot} (h : i ≠ j) : (e.put i s).free j = e.free j := by
  unfold En.free En.put; dsimp only; rw [List.getElem?_set_ne h]
theorem get_ne {e : En} {i : Nat} {m : Str} : e.get i ≠ .err m := by
  unfold En.get; split <;> exact fun z => nomatch z
theorem setL_ne {ds : List D} {k x : D} {m : Str} : setL ds k x ≠ .err m := by
  unfold setL; split
  · split <;> exact fun z => nomatch z
  · exact fun z => nomatch z
theorem bind_ne {s t : Type} {r : Out s} {k : s → Out t} {m : Str} (h : r ≠ .err m) (hk : ∀ x, k x ≠ .err m) : r.bind k ≠ .err m := by
  cases r with
  | ok x => exact hk x
  | err x => exact fun z => h (by cases z; rfl)
  | bad => exact fun z => nomatch z
theorem tg_ne (t : Tg) : (∀ d e m, (tg t).1 d e ≠ .err m) ∧ (∀ ds e m, (tg t).2 ds e ≠ .err m) := by
  induction t with
  | name i =>
    refine ⟨fun d e m => ?_, fun _ _ _ z => nomatch z⟩
    dsimp only [tg]
    split <;> exact fun z => nomatch z
  | sub i j =>
    refine ⟨fun d e m => ?_, fun _ _ _ z => nomatch z⟩
    dsimp only [tg]
    exact bind_ne get_ne fun _ => bind_ne own_ne fun _ => bind_ne setL_ne fun _ z => nomatch z
  | nil =>
    refine ⟨fun d e m => ?_, fun ds e m => ?_⟩
    · dsimp only [tg]; split <;> exact fun z => nomatch z
    · dsimp only [tg]; split <;> exact fun z => nomatch z
  | cons a r iha ihr =>
    refine ⟨fun d e m => ?_, fun ds e m => ?_⟩
    · dsimp only [tg]
      split
      · exact bind_ne (iha.1 _ _ _) fun _ => ihr.2 _ _ _
      · exact fun z => nomatch z
    · dsimp only [tg]
      split
      · exact bind_ne (iha.1 _ _ _) fun _ => ihr.2 _ _ _
      · exact fun z => nomatch z
theorem slot_ne {k : Kd} {d : D} {m : Str} : k.slot d ≠ .err m := by
  unfold Kd.slot; split <;> exact fun z => nomatch z
end

section
variable {X : Cx} {c : Ctx} {Wx : WX} {st : Stmt} {rest : List Stmt} {f g : En → SO} {a b d : Expr} {fa fb fd : En → Out (D × En)} {pos : Pos}
theorem ss_nil : PSs X [] (tS c Wx .next) := by
  refine PSs.imp pss_nil fun E σ H ⟨G, e, ok, p⟩ => p σ H G (.refl _ _ _) ok
/-- f, and behind it g -/
def seqS (f g : En → SO) (e : En) : SO := match f e with
  | .next e1 => g e1
  | r => r
theorem PostS.seq {G : Gh} {H : Hp} {E : Ends} {r : SO} (p : PostS c Wx G H (match r with | .next e1 => g e1 | r => r) E) : PostS c Wx G H r { E with nx := tS c Wx g E } := by
  cases r with
  | next e1 => exact fun σ' H' G' st ok1 => ⟨G', e1, ok1, PostS.trans (r := g e1) p st⟩
  | brk e => exact p
  | ret v e => exact p
  | retf v e => exact p
  | reto v e => exact p
  | err x => exact p
  | bad => exact p
theorem ss_cons (h1 : PS X st (tS c Wx f)) (h2 : PSs X rest (tS c Wx g)) : PSs X (st :: rest) (tS c Wx (seqS f g)) := by
  refine PSs.imp (pss_cons h1 h2) fun E σ H ⟨G, e, ok, p⟩ => ⟨G, e, ok, ?_⟩
  exact p.seq
theorem ss_one (h : PS X st (tS c Wx f)) : PSs X [st] (tS c Wx f) := pss_one h
theorem x_ret (h : PE X a (tV c Wx fa)) : PS X (.Return (some a) pos) (tS c Wx fun e => (fa e).so fun (x, e1) => .ret x e1) := by
  refine PS.imp (ps_ret h) fun E σ H ⟨G, e, ok, p⟩ => ⟨G, e, ok, (PostS.so (R := Rep) p).mono fun v H1 ⟨G1, d1, e1, st1, ok1, r1, p1⟩ => p1 σ v H1 G1 (.refl _ _ _) ok1 r1⟩
theorem x_retF (h : PE X a (tW c Wx true fa)) : PS X (.Return (some a) pos) (tS c Wx fun e => (fa e).so fun (x, e1) => (match x with
    | .list ds => .retf ds e1
    | _ => .bad)) := by
  refine PS.imp (ps_ret h) fun E σ H ⟨G, e, ok, p⟩ => ⟨G, e, ok, (PostS.soW (kk := true) p).mono fun v H1 ⟨G1, d1, e1, _, st1, ok1, r1, p1⟩ => ?_⟩
  have r0 := r1
  obtain ⟨a, vs, ds, gx, rfl, rfl, rr, nw, ne⟩ := r1
  exact p1 σ _ H1 G G1 (.refl _ _ _) ok1 r0
theorem x_retN : PS X (.Return none pos) (tS c Wx fun e => .ret .none e) := by
  refine PS.imp ps_retN fun E σ H ⟨G, e, ok, p⟩ => p σ .non H G (.refl _ _ _) ok .non
theorem x_retOwn {i : Nat} {x : Str} {p1 : Pos} (h : PE X (.Name x p1) (tVar i)) : PS X (.Return (some (.Name x p1)) pos) (tS c Wx fun e => (e.getOwn i).so fun _ => .reto i e) := by
  refine PS.imp (ps_ret h) fun E σ H ⟨G, e, ok, p⟩ => ?_
  obtain ⟨ds, q, p⟩ := PostS.so0 p fun _ => own_ne
  obtain ⟨a, vs, q1, q2, q3, q4, q5⟩ := own_get ok q
  exact ⟨_, q3, p σ _ H G (.refl _ _ _) ok q3⟩
theorem x_ex (h : PE X a (tV c Wx fa)) (hs : swapsWith a none pos.line X.env = pure false) : PS X (.Expr a pos) (tS c Wx fun e => (fa e).so fun (_, e1) => .next e1) := by
  refine PS.imp (ps_expr h hs) fun E σ H ⟨G, e, ok, p⟩ => ⟨G, e, ok, (PostS.so (R := Rep) p).mono fun v H1 ⟨G1, d1, e1, st1, ok1, r1, p1⟩ => p1 σ H1 G1 (.refl _ _ _) ok1⟩
theorem x_ite {l m : List Stmt} {t : En → Out (Bool × En)} (hc : PT X a (tB c Wx t)) (h1 : PSs X l (tS c Wx f)) (h2 : PSs X m (tS c Wx g)) : PS X (.If a l m pos) (tS c Wx fun e => (t e).so fun (b, e1) => if b = true then f e1 else g e1) := by
  refine PS.imp (ps_if hc h1 h2) fun E σ H ⟨G, e, ok, p⟩ => ⟨G, e, ok, (PostS.so (R := RB Bool) p).mono fun v H1 ⟨G1, d1, e1, st1, ok1, r1, p1⟩ => ?_⟩
  cases r1
  cases v with
  | true => exact ⟨G1, e1, ok1, p1⟩
  | false => exact ⟨G1, e1, ok1, p1⟩
theorem x_brk : PS X (.Break pos) (tS c Wx .brk) := by
  refine PS.imp ps_break fun E σ H ⟨G, e, ok, p⟩ => p σ H G (.refl _ _ _) ok
/-- target = value -/
theorem x_set {t : Tg} {tgt : Expr} (h : PE X a (tV c Wx fa)) (hg : PG X tgt (tG c t)) (hs : swapsWithSole [tgt] a pos.line X.env = pure false) (hw : swappedStores [tgt] a X.env = pure none) (h1 : (assignEach [tgt] X.env).map (·.2) = [assign tgt X.env]) :
    PS X (.Assign [tgt] a pos) (tS c Wx fun e => (fa e).so fun (x, e1) => (asg t x e1).so .next) := by
  refine PS.imp (ps_asg h hg hs hw h1) fun E σ H ⟨G, e, ok, p⟩ => ⟨G, e, ok, (PostS.so (R := Rep) p).mono fun v H1 ⟨G1, d1, e1, st1, ok1, r1, p1⟩ => ?_⟩
  obtain ⟨e2, q, p2⟩ := PostS.so0 p1 fun m => (tg_ne t).1 _ _ _
  exact ⟨G1, e1, d1, e2, ok1, r1, q, fun σ' H' G' _ _ st ok' => p2 σ' H' G' st ok'⟩
/-- name = a new list -/
theorem x_own {k : Kd} {i : Nat} {x : Str} {px : Pos} (hN : X.N.Nodup) (hi : X.N[i]? = some x) (hx : Loc X.env.scope x) (hf : X.fn x = true ∨ X.env.scope.names.lookup x = some .local) (h : PE X a (tW c Wx k.fr fa)) (hs : swapsWith a (some (.Name x px)) pos.line X.env = pure false) :
    PS X (.Assign [.Name x px] a pos) (tS c Wx fun e => (fa e).so fun (x, e1) => (k.slot x).so fun s => e1.set1 i s) := by
  refine PS.imp (ps_set hN hi hx h hs hf) fun E σ H ⟨G, e, ok, p⟩ => ⟨G, e, ok, (PostS.soW (kk := k.fr) p).mono fun v H1 ⟨G1, d1, e1, _, st1, ok1, r1, p1⟩ => ?_⟩
  obtain ⟨s, q, p2⟩ := PostS.so0 p1 fun m => slot_ne
  unfold En.set1 at p2
  split at p2
  · rename_i ql
    obtain ⟨G2, ok2, st2, _⟩ := ok1.setK ql r1 q
    exact p2 _ H1 G2 st2 ok2
  · exact p2.elim
theorem x_par2 {k l : Kd} {i j : Nat} {x y : Str} {px py pt pt2 : Pos} {kt k2} (hc : X.calm = true) (hN : X.N.Nodup) (hi : X.N[i]? = some x) (hj : X.N[j]? = some y) (hij : i ≠ j)
    (hx : X.env.scope.names.lookup x = some .local) (hy : X.env.scope.names.lookup y = some .local) (ha : PE X a (tW c Wx k.fr fa)) (hb : PE X b (tW c Wx l.fr fb)) (sa : noStar a = true) (sb : noStar b = true)
    (hw : swappedStores [.Tuple [.Name x px, .Name y py] kt pt] (.Tuple [a, b] k2 pt2) X.env = pure (some [x, y]))
    (hs : swapsWithSole [.Tuple [.Name x px, .Name y py] kt pt] (.Tuple [a, b] k2 pt2) pos.line X.env = pure false) :
    PS X (.Assign [.Tuple [.Name x px, .Name y py] kt pt] (.Tuple [a, b] k2 pt2) pos) (tS c Wx fun e => (fa e).so fun (x, e1) => (fb e1).so fun (y, e2) => (k.slot x).so fun s => (l.slot y).so fun t => if e2.free i = true ∧ e2.free j = true then .next ((e2.put i s).put j t) else .bad) := by
  refine PS.imp (ps_par hc hN hi hj hij hx hy (pa_cons ha (pa_cons hb pa_nil (star_cons sb)) (star_cons sa)) hw hs) fun E σ H ⟨G, e, ok, p⟩ => ⟨G, e, ok, (PostS.soW (kk := k.fr) p).mono fun v H1 ⟨G1, d1, e1, _, st1, ok1, r1, p1⟩ => ⟨G1, e1, ok1, (PostS.soW (kk := l.fr) p1).mono fun w H2 ⟨G2, d2, e2, _, st2, ok2, r2, p2⟩ => ?_⟩⟩
  obtain ⟨s, q, p3⟩ := PostS.so0 p2 fun m => slot_ne
  obtain ⟨t, q2, p4⟩ := PostS.so0 p3 fun m => slot_ne
  split at p4
  · rename_i hf
    obtain ⟨G3, ok3, st3, hX3⟩ := ok2.setK hf.2 r2 q2
    have r1' := Gv.step r1 ok1.zl (st2.trans st3) hX3
    obtain ⟨G4, ok4, st4, _⟩ := ok3.setK (i := i) (by rw [free_put (Ne.symm hij)]; exact hf.1) r1' q
    refine ⟨v, w, rfl, ?_⟩
    have e1 : (e2.put j t).put i s = (e2.put i s).put j t := by
      unfold En.put; dsimp only; rw [List.set_comm _ _ (Ne.symm hij)]
    rw [e1, List.set_comm _ _ (Ne.symm hij)] at ok4
    exact p4 _ H2 G4 (st3.trans st4) ok4
  · exact p4.elim
theorem x_par3 {k l m : Kd} {i j n : Nat} {x y z : Str} {px py pz pt pt2 : Pos} {kt k2} (hc : X.calm = true) (hN : X.N.Nodup) (hi : X.N[i]? = some x) (hj : X.N[j]? = some y) (hn : X.N[n]? = some z) (hij : i ≠ j) (hin : i ≠ n) (hjn : j ≠ n)
    (hx : X.env.scope.names.lookup x = some .local) (hy : X.env.scope.names.lookup y = some .local) (hz : X.env.scope.names.lookup z = some .local) (ha : PE X a (tW c Wx k.fr fa)) (hb : PE X b (tW c Wx l.fr fb)) (hd : PE X d (tW c Wx m.fr fd)) (sa : noStar a = true) (sb : noStar b = true) (sd : noStar d = true)
    (hw : swappedStores [.Tuple [.Name x px, .Name y py, .Name z pz] kt pt] (.Tuple [a, b, d] k2 pt2) X.env = pure (some [x, y, z]))
    (hs : swapsWithSole [.Tuple [.Name x px, .Name y py, .Name z pz] kt pt] (.Tuple [a, b, d] k2 pt2) pos.line X.env = pure false) :
    PS X (.Assign [.Tuple [.Name x px, .Name y py, .Name z pz] kt pt] (.Tuple [a, b, d] k2 pt2) pos) (tS c Wx fun e => (fa e).so fun (x, e1) => (fb e1).so fun (y, e2) => (fd e2).so fun (z, e3) => (k.slot x).so fun s => (l.slot y).so fun t => (m.slot z).so fun u => if e3.free i = true ∧ e3.free j = true ∧ e3.free n = true then .next (((e3.put i s).put j t).put n u) else .bad) := by
  refine PS.imp (L2.ps_par3 hc hN hi hj hn hij hin hjn hx hy hz (pa_cons ha (pa_cons hb (pa_cons hd pa_nil (star_cons sd)) (star_cons sb)) (star_cons sa)) hw hs) fun E σ H ⟨G, e, ok, p⟩ => ⟨G, e, ok, (PostS.soW (kk := k.fr) p).mono fun v H1 ⟨G1, d1, e1, _, st1, ok1, r1, p1⟩ =>
    ⟨G1, e1, ok1, (PostS.soW (kk := l.fr) p1).mono fun w H2 ⟨G2, d2, e2, _, st2, ok2, r2, p2⟩ => ⟨G2, e2, ok2, (PostS.soW (kk := m.fr) p2).mono fun u H3 ⟨G3, d3, e3, _, st3, ok3, r3, p3⟩ => ?_⟩⟩⟩
  obtain ⟨s, q, p3⟩ := PostS.so0 p3 fun m => slot_ne
  obtain ⟨t, q2, p3⟩ := PostS.so0 p3 fun m => slot_ne
  obtain ⟨uu, q3, p3⟩ := PostS.so0 p3 fun m => slot_ne
  split at p3
  · rename_i hf
    obtain ⟨G4, ok4, st4, hX4⟩ := ok3.setK hf.2.2 r3 q3
    have r2' := Gv.step r2 ok2.zl (st3.trans st4) hX4
    obtain ⟨G5, ok5, st5, hX5⟩ := ok4.setK (i := j) (by rw [free_put (Ne.symm hjn)]; exact hf.2.1) r2' q2
    have r1' := Gv.step r1 ok1.zl (st2.trans ((st3.trans st4).trans st5)) hX5
    obtain ⟨G6, ok6, st6, hX6⟩ := ok5.setK (i := i) (by rw [free_put (Ne.symm hij), free_put (Ne.symm hin)]; exact hf.1) r1' q
    refine ⟨v, w, u, rfl, ?_⟩
    have e1 : ((e3.put n uu).put j t).put i s = ((e3.put i s).put j t).put n uu := by
      unfold En.put; dsimp only
      rw [List.set_comm (i := j) (j := i) _ _ (Ne.symm hij), List.set_comm (i := n) (j := i) _ _ (Ne.symm hin), List.set_comm (i := n) (j := j) _ _ (Ne.symm hjn)]
    rw [e1, List.set_comm (i := j) (j := i) _ _ (Ne.symm hij), List.set_comm (i := n) (j := i) _ _ (Ne.symm hin), List.set_comm (i := n) (j := j) _ _ (Ne.symm hjn)] at ok6
    exact p3 _ H3 G6 ((st4.trans st5).trans st6) ok6
  · exact p3.elim
/-- the list in slot i becomes data -/
theorem Ok.freeze {G : Gh} {σ : L2.St} {H : Hp} {e : En} {i : Nat} {ds : List D} (ok : Ok c G σ H e) (q : e.getOwn i = .ok ds) : Ok c ⟨G.M.set i none, G.O, G.X⟩ σ H (e.put i (.val (.list ds))) ∧ StepS c G H ⟨G.M.set i none, G.O, G.X⟩ H := by
  obtain ⟨a, vs, q1, q2, q3, q4, q5⟩ := own_get ok q
  have hf : e.free i = true := by unfold En.free; rw [q1]
  have hl := (List.getElem?_eq_some_iff.mp q1).1
  have hM := (List.getElem?_eq_some_iff.mp q2).1
  have st : StepS c G H ⟨G.M.set i none, G.O, G.X⟩ H := .drop i
  have na : ¬ Zm c ⟨G.M.set i none, G.O, G.X⟩ a := fun z => by
    rcases z with z | z | ⟨xs, z⟩
    · exact ok.mine i ds a q1 q2 z
    · obtain ⟨j, hj⟩ := List.getElem?_of_mem z
      rcases set_get hj with ⟨_, z, _⟩ | ⟨nj, hj⟩
      · cases z
      · exact nj (ok.inj j i a hj q2)
    · exact (ok.pin _ z).2 i q2
  have r : Rep (c.wd ⟨G.M.set i none, G.O, G.X⟩) H (.ref a) (.list ds) := .lst na q4 (st.reps ok.zl q5)
  refine ⟨?_, st⟩
  refine ⟨by simpa [En.put] using ok.len, by simpa using ok.lenM, fun j s q => ?_, fun j k a h1 h2 => ?_, ok.fr, fun b z => ok.zl b (zm_none z), fun j a h => ?_, fun j ds' b q h => ?_, fun p hp => ⟨(ok.pin p hp).1, fun j h => ?_⟩, ok.argSet hf fun j h => List.getElem?_set_ne h, fun n k fs q => ?_⟩
  · rcases set_get q with ⟨rfl, rfl, _⟩ | ⟨ne, q⟩
    · exact ⟨none, _, List.getElem?_set_self hM, q3, rfl, _, rfl, r⟩
    · obtain ⟨m, x, h1, h2, h3⟩ := ok.slot j s q
      refine ⟨m, x, by rw [List.getElem?_set_ne (Ne.symm ne)]; exact h1, h2, ?_⟩
      cases s with
      | no => exact h3
      | val d => obtain ⟨a, v, b, r⟩ := h3; exact ⟨a, v, b, st.rep ok.zl r⟩
      | own ds => obtain ⟨a, vs, e1, e2, e3, r⟩ := h3; exact ⟨a, vs, e1, e2, e3, st.reps ok.zl r⟩
      | bag ds => obtain ⟨a, vs, e1, e2, e3, r⟩ := h3; exact ⟨a, vs, e1, e2, e3, st.reps ok.zl r⟩
  · rcases set_get h1 with ⟨_, z, _⟩ | ⟨_, h1⟩
    · cases z
    · rcases set_get h2 with ⟨_, z, _⟩ | ⟨_, h2⟩
      · cases z
      · exact ok.inj j k a h1 h2
  · rcases set_get h with ⟨_, z, _⟩ | ⟨_, h⟩
    · cases z
    · exact ok.own j a h
  · rcases set_get h with ⟨_, z, _⟩ | ⟨ne, h⟩
    · cases z
    · have q : (e.sl.set i (.val (.list ds)))[j]? = some (.own ds') := q
      rw [List.getElem?_set_ne (Ne.symm ne)] at q
      exact ok.mine j ds' b q h
  · rcases set_get h with ⟨_, z, _⟩ | ⟨_, h⟩
    · cases z
    · exact (ok.pin p hp).2 j h
  · obtain ⟨a, dx, vs, e1, e2, e3, e4⟩ := ok.obs n k fs q
    exact ⟨a, dx, vs, e1, e2, e3, st.reps ok.zl e4⟩
theorem ss_frz {i : Nat} (h : PSs X rest (tS c Wx g)) : PSs X rest (tS c Wx (seqS (fun e => (e.getOwn i).so fun ds => .next (e.put i (.val (.list ds)))) g)) := by
  refine PSs.imp h fun E σ H ⟨G, e, ok, p⟩ => ?_
  cases q : e.getOwn i with
  | err m => exact (own_ne q).elim
  | bad => unfold seqS at p; dsimp only at p; rw [q] at p; exact p.elim
  | ok ds =>
    unfold seqS at p
    dsimp only at p
    rw [q] at p
    obtain ⟨o, st⟩ := ok.freeze q
    exact ⟨_, _, o, PostS.trans (r := g (e.put i (.val (.list ds)))) p st⟩
/-- own list . append -/
theorem x_app {i : Nat} {x : Str} {p1 p2 p3 : Pos} (hx : PE X (.Name x p1) (tVar i)) (h : PE X a (tV c Wx fa)) (hs : noStar a = true) (hl : (p2.endLine == p3.line) = true) (hsw : swapsWith (.Call (.Attribute (.Name x p1) "append" p2) [a] [] p3) none pos.line X.env = pure false) :
    PS X (.Expr (.Call (.Attribute (.Name x p1) "append" p2) [a] [] p3) pos) (tS c Wx fun e => (e.getAny i).so fun _ => (fa e).so fun (x, e1) => (e1.getAny i).so fun ds => if ds.length < 16777216 then .next (e1.putAny i (ds ++ [x])) else .bad) := by
  refine PS.imp (ps_expr (pe_bm (cpos := p3) PySem.F.plainAttrs_list PySem.F.slot_list_append PySem.F.type_list_append mt_append hx (pa_cons h pa_nil (star_cons hs)) rfl (by rw [star_cons hs]; rfl) hl (star_cons hs) rfl) hsw) fun E σ H ⟨G, e, ok, p⟩ => ?_
  obtain ⟨ds0, q0, p⟩ := PostS.so0 p fun _ => any_ne
  obtain ⟨a0, vs0, g1, g2, g3, g4, g5⟩ := any_get ok q0
  refine ⟨_, g3, .inl ⟨rfl, vs0, .inl (.inl g4)⟩, G, e, ok, (PostS.so (R := Rep) p).mono fun v H1 ⟨G1, d1, e1, st1, ok1, r1, p1⟩ => ?_⟩
  obtain ⟨ds, q, p2⟩ := PostS.so0 p1 fun _ => any_ne
  obtain ⟨a1, vs, k1, k2, k3, k4, k5⟩ := any_get ok1 q
  rw [g3] at k3; cases k3
  by_cases hl : ds.length < 16777216
  · rw [if_pos hl] at p2
    refine ⟨a0, vs, v, rfl, rfl, k4, by rw [k5.length, sz]; exact hl, ?_⟩
    have st : Step c G1 H1 G1 (upd H1 a0 (.lst (vs ++ [v]))) := .turn k2 extB_upd
    rcases k1 with k1 | k1
    · rw [put_own k1] at p2
      exact p2 σ _ G1 st.s (ok1.turn k1 k2 g3 extB_upd (tabs_upd k4 ok1.fr.2) upd_same ⟨a0, _, rfl, rfl, upd_same, (st.reps ok1.zl k5).append (.cons (st.rep ok1.zl r1) .nil)⟩ (fun ds' _ => ⟨_, rfl⟩) fun _ z => nomatch z)
    · rw [put_bag k1] at p2
      exact p2 σ _ G1 st.s (ok1.turn k1 k2 g3 extB_upd (tabs_upd k4 ok1.fr.2) upd_same ⟨a0, _, rfl, rfl, upd_same, (st.reps ok1.zl k5).append (.cons (st.rep ok1.zl r1) .nil)⟩ (fun _ z => nomatch z) fun ds' _ => ⟨_, rfl⟩)
  · rw [if_neg hl] at p2; exact p2.elim
/-- own list [ k ] = e -/
theorem x_setIx {i : Nat} {x : Str} {p1 p2 : Pos} {key : Expr} {fk : En → Out (D × En)} (hx : PE X (.Name x p1) (tVar i)) (hk : PE X key (tV c Wx fk)) (h : PE X a (tV c Wx fa)) (ns : noSl key = true)
    (hs : swapsWithSole [.Subscript (.Name x p1) key p2] a pos.line X.env = pure false) :
    PS X (.Assign [.Subscript (.Name x p1) key p2] a pos) (tS c Wx fun e => (fa e).so fun (x, e1) => (e1.getOwn i).so fun _ => (fk e1).so fun (y, e2) => (e2.getOwn i).so fun ds => (setL ds y x).so fun ds' => .next (e2.put i (.own ds'))) := by
  refine PS.imp (ps_asg h (pg_sub hx hk set_list (by intro v; cases key <;> first | rfl | (exact absurd ns (by simp [noSl])))) hs) fun E σ H ⟨G, e, ok, p⟩ => ⟨G, e, ok, (PostS.so (R := Rep) p).mono fun v H1 ⟨G1, d1, e1, st1, ok1, r1, p1⟩ => ?_⟩
  obtain ⟨ds0, q0, p1⟩ := PostS.so0 p1 fun _ => own_ne
  obtain ⟨a0, vs0, g1, g2, g3, g4, g5⟩ := own_get ok1 q0
  refine ⟨_, g3, G1, e1, ok1, (PostS.so (R := Rep) p1).mono fun w H2 ⟨G2, d2, e2, st2, ok2, r2, p2⟩ => ?_⟩
  obtain ⟨ds, q, p3⟩ := PostS.so0 p2 fun _ => own_ne
  obtain ⟨ds', q2, p4⟩ := PostS.so0 p3 fun _ => setL_ne
  obtain ⟨a1, vs, k1, k2, k3, k4, k5⟩ := own_get ok2 q
  rw [g3] at k3; cases k3
  cases d2 with
  | int n =>
    cases r2
    dsimp only [setL] at q2
    split at q2
    · rename_i t ht
      cases q2
      refine ⟨a0, vs, n, t, rfl, rfl, k4, by rw [k5.length]; exact ht, ?_⟩
      have st : Step c G2 H2 G2 (upd H2 a0 (.lst (vs.set t v))) := .turn k2 extB_upd
      exact p4 σ _ G2 st.s (ok2.turn k1 k2 g3 extB_upd (tabs_upd k4 ok2.fr.2) upd_same ⟨a0, _, rfl, rfl, upd_same, (st.reps ok2.zl k5).set t (st.rep ok2.zl (st2.rep ok1.zl r1))⟩ (fun ds' _ => ⟨_, rfl⟩) fun _ z => nomatch z)
    · cases q2
  | _ => cases q2
/-- bag . pop(0) -/
theorem s_pop0 {i : Nat} {x : Str} {p1 p2 p3 p4 : Pos} {k : Nat} (hx : PE X (.Name x p1) (tVar i)) (hl : (p2.endLine == p3.line) = true) :
    PE X (.Call (.Attribute (.Name x p1) "pop" p2) [.Constant (.int 0) k p4] [] p3) (tV c Wx fun e => (e.getBag i).bind fun ds => match ds with
    | [] => .bad
    | d :: r => .ok (d, e.put i (.bag r))) := by
  refine PE.imp (pe_bm (cpos := p3) PySem.F.plainAttrs_list PySem.F.slot_list_pop PySem.F.type_list_pop mt_popAt hx (pa_cons pe_int pa_nil) rfl rfl hl rfl rfl) fun σ H Q ⟨G, e, ok, p⟩ => ?_
  dsimp only at p
  cases q : e.getBag i with
  | err m => exfalso; unfold En.getBag at q; split at q <;> cases q
  | bad => rw [q] at p; exact p.elim
  | ok ds =>
    rw [q] at p
    obtain ⟨a0, vs, g1, g2, g3, g4, g5⟩ := bag_get ok q
    cases g5 with
    | nil => exact p.elim
    | @cons v vs d ds hv ht =>
      refine ⟨_, g3, .inl ⟨rfl, _, .inl (.inl g4)⟩, a0, v :: vs, 0, 0, v, rfl, rfl, g4, by decide, by decide, by simp [seqIndex?], rfl, ?_⟩
      have st : Step c G H G (upd H a0 (.lst vs)) := .turn g2 extB_upd
      exact p v _ G st (ok.turn g1 g2 g3 extB_upd (tabs_upd g4 ok.fr.2) upd_same ⟨a0, _, rfl, rfl, upd_same, st.reps ok.zl ht⟩ (fun _ z => nomatch z) fun _ _ => ⟨_, rfl⟩) (st.rep ok.zl hv)
/-- own list . pop() -/
theorem s_popE {i : Nat} {x : Str} {p1 p2 p3 : Pos} (hx : PE X (.Name x p1) (tVar i)) (hl : (p2.endLine == p3.line) = true) :
    PE X (.Call (.Attribute (.Name x p1) "pop" p2) [] [] p3) (tV c Wx fun e => (e.getOwn i).bind fun ds => match ds.getLast? with
    | some d => .ok (d, e.put i (.own ds.dropLast))
    | none => .bad) := by
  refine PE.imp (pe_bm0 (cpos := p3) PySem.F.plainAttrs_list PySem.F.slot_list_pop PySem.F.type_list_pop mt_pop hx rfl hl) fun σ H Q ⟨G, e, ok, p⟩ => ?_
  dsimp only at p
  cases q : e.getOwn i with
  | err m => exact (own_ne q).elim
  | bad => rw [q] at p; exact p.elim
  | ok ds =>
    rw [q] at p
    obtain ⟨a0, vs, g1, g2, g3, g4, g5⟩ := own_get ok q
    dsimp only [Out.bind] at p
    cases ql : ds.getLast? with
    | none => rw [ql] at p; exact p.elim
    | some d =>
      rw [ql] at p
      rw [List.getLast?_eq_getElem?] at ql
      obtain ⟨v, hv, rv⟩ := g5.get ql
      refine ⟨_, g3, .inl ⟨rfl, _, .inl (.inl g4)⟩, a0, vs, v, rfl, rfl, g4, by rw [g5.length]; exact hv, ?_⟩
      have st : Step c G H G (upd H a0 (.lst vs.dropLast)) := .turn g2 extB_upd
      have r2 : Reps (c.wd G) H vs.dropLast ds.dropLast := by
        rw [List.dropLast_eq_take, List.dropLast_eq_take, g5.length]; exact g5.take _
      exact p v _ G st (ok.turn g1 g2 g3 extB_upd (tabs_upd g4 ok.fr.2) upd_same ⟨a0, _, rfl, rfl, upd_same, st.reps ok.zl r2⟩ (fun _ _ => ⟨_, rfl⟩) fun _ z => nomatch z) (st.rep ok.zl rv)
end

/-! ### loops -/
theorem PS.nox {X : Cx} {st : Stmt} {t : TS} (h : PS X.nox st t) : PS X st t := ⟨fun pins s σ H D I hw =>
  wpAny_mono (h.run pins s σ H D (I.wish _) hw) (fun _ _ q => q.unwish) fun _ _ z => False.elim z⟩
section
variable {X : Cx} {c : Ctx} {Wx : WX} {f : En → SO} {a tgt : Expr} {l : List Stmt} {pos : Pos}
theorem x_loop {n : Nat} {t : En → Out (Bool × En)} (hc : PT X.nox a (tB c Wn t)) (h : PSs X.nox l (tS c Wn f)) : PS X (.While a l [] pos) (tS c Wx fun e => (loopS t f n e).noErr) := by
  refine PS.nox (PS.imp (ps_while PassesOwn.never hc h) fun E σ H ⟨G, e, ok, p⟩ => ?_)
  refine ⟨fun m σ H => ∃ G e, Ok c G σ H e ∧ PostS c Wx G H (loopS t f m e).noErr E, ⟨n, G, e, ok, p⟩, fun m σ H ⟨G, e, ok, p⟩ => ?_⟩
  cases m with
  | zero => exact p.elim
  | succ m =>
    refine ⟨G, e, ok, ?_⟩
    unfold loopS at p
    cases q : t e with
    | err x => rw [q] at p; exact p.elim
    | bad => rw [q] at p; exact p.elim
    | ok r =>
      obtain ⟨b, e1⟩ := r
      rw [q] at p
      intro v H1 G1 st1 ok1 rr
      cases rr
      dsimp only [Out.so] at p
      cases b with
      | false => exact p σ H1 G1 st1.s ok1
      | true =>
        refine ⟨fun σ H => ∃ G e, Ok c G σ H e ∧ PostS c Wx G H (loopS t f m e).noErr E, fun σ' H' h => ⟨m, Nat.lt_succ_self m, h⟩, G1, e1, ok1, ?_⟩
        rw [if_pos rfl] at p
        cases q1 : f e1 with
        | next e2 =>
          rw [q1] at p
          exact fun σ' H' G' st ok' => ⟨G', e2, ok', PostS.trans (r := (loopS t f m e2).noErr) p (st1.s.trans st)⟩
        | brk e2 =>
          rw [q1] at p
          exact fun σ' H' G' st ok' => p σ' H' G' (st1.s.trans st) ok'
        | ret v e2 => rw [q1] at p; exact fun a b d g st ok' => p a b d g (st1.s.trans st) ok'
        | retf v e2 => rw [q1] at p; exact fun a b d g g' st ok' => p a b d g g' (st1.s.trans st) ok'
        | reto v e2 => rw [q1] at p; exact fun a b d g st ok' => p a b d g (st1.s.trans st) ok'
        | err x => rw [q1] at p; exact p.elim
        | bad => rw [q1] at p; exact p.elim
theorem x_each {t : Tg} {fi : En → Out (List D × En)} (hc : X.calm = true) (hi : PI X.nox tgt a (tI c Wn fi)) (hg : PG X.nox tgt (tG c t)) (h : PSs X.nox l (tS c Wn f)) (hs : ∀ x, foldedSetIterable a X.env x = pure x) :
    PS X (.For tgt a l [] pos) (tS c Wx fun e => ((fi e).so fun (ds, e1) => eachS (asg t) f ds e1).noErr) := by
  refine PS.nox (PS.imp (ps_for PassesOwn.never hc hi hg h hs) fun E σ H ⟨G, e, ok, p⟩ => ⟨G, e, ok, ?_⟩)
  dsimp only at p
  cases q : fi e with
  | err x => rw [q] at p; exact p.elim
  | bad => rw [q] at p; exact p.elim
  | ok r =>
    obtain ⟨ds, e1⟩ := r
    rw [q] at p
    intro J H1 G1 P st1 ok1 src hP
    have p : PostS c Wx G1 H1 (eachS (asg t) f ds e1).noErr E := PostS.trans (r := (eachS (asg t) f ds e1).noErr) p st1.s
    refine ⟨fun i m σ H => i + m = ds.length ∧ ∃ G e, Ok c G σ H e ∧ P G H ∧ PostS c Wx G H (eachS (asg t) f (ds.drop i) e).noErr E, ⟨ds.length, by omega, G1, e1, ok1, hP, p⟩, fun i m σ H ⟨hm, G, e, ok, hP, p⟩ => ?_⟩
    cases m with
    | zero =>
      left
      rw [List.drop_eq_nil_of_le (by omega)] at p
      exact ⟨src.stop i hP (by omega), p σ H G (.refl _ _ _) ok⟩
    | succ m =>
      right
      have hlt : i < ds.length := by omega
      rw [List.drop_eq_getElem_cons hlt] at p
      refine ⟨src.go i hP hlt, fun σ H => ∃ G e, Ok c G σ H e ∧ P G H ∧ PostS c Wx G H (eachS (asg t) f (ds.drop (i + 1)) e).noErr E, fun σ' H' h => ⟨m, Nat.lt_succ_self m, by omega, h⟩, fun x H' y => ?_⟩
      obtain ⟨sm, rx⟩ := src.yld i ok.zl hP y (List.getElem?_eq_getElem hlt)
      unfold eachS at p
      cases qa : asg t ds[i] e with
      | err x => exact ((tg_ne t).1 _ _ _ qa).elim
      | bad => rw [qa] at p; exact p.elim
      | ok e1 =>
        rw [qa] at p
        dsimp only [Out.so] at p
        have s0 : Step c G H G H' := .of_ext (.of sm)
        refine ⟨G, e, ds[i], e1, ok.same sm, rx, qa, fun σ1 H1 G1 _ _ st1 ok1 => ⟨G1, e1, ok1, ?_⟩⟩
        have st := s0.s.trans st1
        cases q1 : f e1 with
        | next e2 =>
          rw [q1] at p
          exact fun σ' H' G' s2 ok' => ⟨G', e2, ok', src.stay ok.zl hP (st.trans s2), PostS.trans (r := (eachS (asg t) f (ds.drop (i + 1)) e2).noErr) p (st.trans s2)⟩
        | brk e2 =>
          rw [q1] at p
          exact fun σ' H' G' s2 ok' => p σ' H' G' (st.trans s2) ok'
        | ret v e2 => rw [q1] at p; exact fun a b d g s2 ok' => p a b d g (st.trans s2) ok'
        | retf v e2 => rw [q1] at p; exact fun a b d g g' s2 ok' => p a b d g g' (st.trans s2) ok'
        | reto v e2 => rw [q1] at p; exact fun a b d g s2 ok' => p a b d g (st.trans s2) ok'
        | err x => rw [q1] at p; exact p.elim
        | bad => rw [q1] at p; exact p.elim
end
end DV
set_option Elab.async false
set_option linter.all false
set_option maxRecDepth 100000
set_option maxHeartbeats 4000000
/-! List comprehensions. -/
namespace DV
open PySem PySem.Spec PyProof.Rows L2

theorem wipeL_get (sl : List Slot) (vs : List Nat) (i : Nat) : (wipeL sl vs)[i]? = if i ∈ vs then (sl[i]?).map (fun _ => Slot.no) else sl[i]? := by
  induction vs with
  | nil => simp [wipeL]
  | cons v vs ih =>
    unfold wipeL
    rcases Nat.decEq v i with h | h
    · rw [List.getElem?_set_ne h, ih]
      have : (i ∈ v :: vs) ↔ i ∈ vs := by simp [List.mem_cons, Ne.symm h]
      by_cases hm : i ∈ vs
      · rw [if_pos hm, if_pos (this.mpr hm)]
      · rw [if_neg hm, if_neg (fun z => hm (this.mp z))]
    · subst h
      rw [if_pos List.mem_cons_self]
      have hlen : (wipeL sl vs).length = sl.length := by
        clear ih
        induction vs with
        | nil => rfl
        | cons w vs ih => unfold wipeL; rw [List.length_set, ih]
      by_cases hl : v < sl.length
      · rw [List.getElem?_set_self (by rw [hlen]; exact hl), List.getElem?_eq_getElem hl]; rfl
      · rw [List.getElem?_eq_none (by rw [List.length_set, hlen]; omega), List.getElem?_eq_none (by omega)]; rfl
theorem wipeL_len (sl : List Slot) (vs : List Nat) : (wipeL sl vs).length = sl.length := by
  induction vs with
  | nil => rfl
  | cons w vs ih => unfold wipeL; rw [List.length_set, ih]
theorem backL_len (sl old : List Slot) (vs : List Nat) : (backL sl old vs).length = sl.length := by
  induction vs with
  | nil => rfl
  | cons w vs ih => unfold backL; rw [List.length_set, ih]
theorem backL_get (sl old : List Slot) (vs : List Nat) (i : Nat) : (backL sl old vs)[i]? = if i ∈ vs then (sl[i]?).map (fun _ => old.getD i .no) else sl[i]? := by
  induction vs with
  | nil => simp [backL]
  | cons v vs ih =>
    unfold backL
    rcases Nat.decEq v i with h | h
    · rw [List.getElem?_set_ne h, ih]
      have : (i ∈ v :: vs) ↔ i ∈ vs := by simp [List.mem_cons, Ne.symm h]
      by_cases hm : i ∈ vs
      · rw [if_pos hm, if_pos (this.mpr hm)]
      · rw [if_neg hm, if_neg (fun z => hm (this.mp z))]
    · subst h
      rw [if_pos List.mem_cons_self]
      by_cases hl : v < sl.length
      · rw [List.getElem?_set_self (by rw [backL_len]; exact hl), List.getElem?_eq_getElem hl]; rfl
      · rw [List.getElem?_eq_none (by rw [List.length_set, backL_len]; omega), List.getElem?_eq_none (by omega)]; rfl
theorem wipeM_none : ∀ (vs : List Nat) (M : List (Option Addr)), (∀ i ∈ vs, ∀ a, M[i]? ≠ some (some a)) → wipeM M vs = M
  | [], _, _ => rfl
  | v :: vs, M, h => by
    have e : M.set v none = M := by
      apply List.ext_getElem?
      intro i
      rcases Nat.decEq v i with hi | hi
      · rw [List.getElem?_set_ne hi]
      · subst hi
        by_cases hl : v < M.length
        · rw [List.getElem?_set_self hl, List.getElem?_eq_getElem hl]
          have := h v List.mem_cons_self
          rw [List.getElem?_eq_getElem hl] at this
          cases q : M[v] with
          | none => rfl
          | some a => exact absurd (by rw [q]) (this a)
        · rw [List.getElem?_eq_none (by rw [List.length_set]; omega), List.getElem?_eq_none (by omega)]
    show wipeM (M.set v none) vs = M
    rw [e]
    exact wipeM_none vs M fun i hi => h i (List.mem_cons_of_mem _ hi)
section
variable {X : Cx} {c : Ctx} {Wx : WX} {G G' : Gh} {σ : L2.St} {H H' : Hp} {e e1 : En} {vs : List Nat}
theorem ownFree_M (ok : Ok c G σ H e) (h : ownFree e.sl vs = true) : ∀ i ∈ vs, ∀ a, G.M[i]? ≠ some (some a) := by
  intro i hi a hM
  unfold ownFree at h
  rw [List.all_eq_true] at h
  have h := h i hi
  have hl : i < e.sl.length := by rw [ok.len, ← ok.lenM]; exact (List.getElem?_eq_some_iff.mp hM).1
  obtain ⟨m, x, h1, h2, h3⟩ := ok.slot i e.sl[i] (List.getElem?_eq_getElem hl)
  rw [List.getElem?_eq_getElem hl] at h
  rw [hM] at h1; cases h1
  cases q : e.sl[i] with
  | no => rw [q] at h3; cases h3
  | val d => rw [q] at h3; cases h3.1
  | own d => rw [q] at h; cases h
  | bag d => rw [q] at h; cases h
theorem Ok.wipe (ok : Ok c G σ H e) (h : ∀ i ∈ vs, ∀ a, G.M[i]? ≠ some (some a)) : Ok c G (L2.wipe σ vs) H (e.wipe vs) := by
  refine ⟨?_, ?_, fun i s q => ?_, ok.inj, ok.fr, ok.zl, ok.own, fun i ds a q hM => ?_, ok.pin, fun b hb => ?_, ok.obs⟩
  · show (wipeL e.sl vs).length = _
    rw [wipeL_len, wipe_length]; exact ok.len
  · rw [wipe_length]; exact ok.lenM
  · have q : (wipeL e.sl vs)[i]? = some s := q
    rw [wipeL_get] at q
    by_cases hi : i ∈ vs
    · rw [if_pos hi] at q
      cases ql : e.sl[i]? with
      | none => rw [ql] at q; cases q
      | some s0 =>
        rw [ql] at q; cases q
        obtain ⟨m, x, h1, h2, h3⟩ := ok.slot i s0 ql
        refine ⟨m, none, h1, by rw [wipe_get, if_pos hi, h2]; rfl, ?_⟩
        cases m with
        | none => rfl
        | some a => exact absurd h1 (h i hi a)
    · rw [if_neg hi] at q
      obtain ⟨m, x, h1, h2, h3⟩ := ok.slot i s q
      exact ⟨m, x, h1, by rw [wipe_get, if_neg hi]; exact h2, h3⟩
  · have q : (wipeL e.sl vs)[i]? = some (.own ds) := q
    rw [wipeL_get] at q
    by_cases hi : i ∈ vs
    · exact absurd hM (h i hi a)
    · rw [if_neg hi] at q; exact ok.mine i ds a q hM
  · obtain ⟨b1, ds, b2⟩ := ok.arg b hb
    refine ⟨b1, ds, ?_⟩
    show (wipeL e.sl vs)[b.1]? = _
    rw [wipeL_get, if_neg fun z => h b.1 z b.2 b1]; exact b2
theorem Ok.back (okw : Ok c G' (L2.wipe σ vs) H' e) (ok0 : Ok c G σ H e1) (hM : G'.M = G.M) (st : StepS c G H G' H') (h : ownFree e1.sl vs = true) : Ok c G' σ H' (e.back e1 vs) := by
  have hn := ownFree_M ok0 h
  refine ⟨?_, ?_, fun i s q => ?_, okw.inj, okw.fr, okw.zl, okw.own, fun i ds a q hM' => ?_, okw.pin, fun b hb => ?_, okw.obs⟩
  · show (backL e.sl e1.sl vs).length = _
    rw [backL_len, okw.len, wipe_length]
  · rw [okw.lenM, wipe_length]
  · have q : (backL e.sl e1.sl vs)[i]? = some s := q
    rw [backL_get] at q
    by_cases hi : i ∈ vs
    · rw [if_pos hi] at q
      cases ql : e.sl[i]? with
      | none => rw [ql] at q; cases q
      | some s0 =>
        rw [ql] at q
        have hl : i < e1.sl.length := by
          rw [ok0.len, ← wipe_length σ vs, ← okw.len]; exact (List.getElem?_eq_some_iff.mp ql).1
        have hs : e1.sl[i]? = some s := by
          have q : e1.sl.getD i .no = s := Option.some.inj q
          rw [List.getD_eq_getElem?_getD, List.getElem?_eq_getElem hl] at q
          rw [List.getElem?_eq_getElem hl, ← q]; rfl
        obtain ⟨m, x, h1, h2, h3⟩ := ok0.slot i s hs
        refine ⟨m, x, by rw [hM]; exact h1, h2, ?_⟩
        cases s with
        | no => exact h3
        | val d => obtain ⟨a, v, b, r⟩ := h3; exact ⟨a, v, b, st.rep ok0.zl r⟩
        | own ds => obtain ⟨a, vs, e1, e2, e3, r⟩ := h3; subst e1; exact absurd h1 (hn i hi a)
        | bag ds => obtain ⟨a, vs, e1, e2, e3, r⟩ := h3; subst e1; exact absurd h1 (hn i hi a)
    · rw [if_neg hi] at q
      obtain ⟨m, x, h1, h2, h3⟩ := okw.slot i s q
      exact ⟨m, x, h1, by rw [wipe_get, if_neg hi] at h2; exact h2, h3⟩
  · have q : (backL e.sl e1.sl vs)[i]? = some (.own ds) := q
    rw [backL_get] at q
    by_cases hi : i ∈ vs
    · exact absurd (by rw [← hM]; exact hM') (hn i hi a)
    · rw [if_neg hi] at q; exact okw.mine i ds a q hM'
  · obtain ⟨b1, ds, b2⟩ := okw.arg b hb
    refine ⟨b1, ds, ?_⟩
    show (backL e.sl e1.sl vs)[b.1]? = _
    rw [backL_get, if_neg fun z => hn b.1 z b.2 (by rw [← hM]; exact b1)]; exact b2
/-- the held list on top grows -/
theorem Ok.grow {a : Addr} {xs ys : List V} {X' : List (Addr × List V)} (ok : Ok c G σ H e) (gx : G.X = (a, xs) :: X') (nw : New c a) (ne : ∀ q ∈ X', q.1 ≠ a) :
    Ok c ⟨G.M, G.O, (a, ys) :: X'⟩ σ (upd H a (.lst ys)) e ∧ StepS c G H ⟨G.M, G.O, (a, ys) :: X'⟩ (upd H a (.lst ys)) := by
  have za : Zm c G a := .inr (.inr ⟨xs, by rw [gx]; exact List.mem_cons_self⟩)
  have pa := ok.pin (a, xs) (by rw [gx]; exact List.mem_cons_self)
  have zz : ∀ b, Zm c ⟨G.M, G.O, (a, ys) :: X'⟩ b → Zm c G b := fun b z => by
    rcases z with z | z | ⟨us, z⟩
    · exact .inl z
    · exact .inr (.inl z)
    · rcases List.mem_cons.mp z with z | z
      · cases z; exact za
      · exact .inr (.inr ⟨us, by rw [gx]; exact List.mem_cons_of_mem _ z⟩)
  have st : StepS c G H ⟨G.M, G.O, (a, ys) :: X'⟩ (upd H a (.lst ys)) := ⟨rfl, fun b o h _ n => ⟨by
    rw [upd_ne (fun z => n (by rw [z]; exact za) : b ≠ a)]; exact h, fun z => n (zz b z)⟩⟩
  have xb : ExtB a H (upd H a (.lst ys)) := extB_upd
  refine ⟨⟨ok.len, ok.lenM, fun i s q => ?_, ok.inj, ⟨fun b o q n nb => ?_, tabs_upd pa.1 ok.fr.2⟩, fun b z => ?_, ok.own, ok.mine, fun p hp => ?_, ok.arg, fun n k fs q => ?_⟩, st⟩
  · obtain ⟨m, y, h1, h2, h3⟩ := ok.slot i s q
    refine ⟨m, y, h1, h2, ?_⟩
    have na : ∀ b, m = some b → b ≠ a := fun b hb z => by subst hb z; exact pa.2 i h1
    cases s with
    | no => exact h3
    | val d => obtain ⟨z, v, b, r⟩ := h3; exact ⟨z, v, b, st.rep ok.zl r⟩
    | own ds => obtain ⟨b, vs, e1, e2, e3, r⟩ := h3; exact ⟨b, vs, e1, e2, xb b _ e3 (fun t => t) (na b e1), st.reps ok.zl r⟩
    | bag ds => obtain ⟨b, vs, e1, e2, e3, r⟩ := h3; exact ⟨b, vs, e1, e2, xb b _ e3 (fun t => t) (na b e1), st.reps ok.zl r⟩
  · by_cases hb : b = a
    · subst hb
      rcases nw.own with z | z
      · exact absurd z nb
      · exact absurd (z o q) n
    · exact xb b o (ok.fr.1 b o q n nb) n hb
  · by_cases hb : b = a
    · subst hb; exact ⟨_, upd_same⟩
    · obtain ⟨us, q⟩ := ok.zl b (zz b z); exact ⟨us, xb b _ q (fun t => t) hb⟩
  · rcases List.mem_cons.mp hp with rfl | hp
    · exact ⟨upd_same, pa.2⟩
    · have := ok.pin p (by rw [gx]; exact List.mem_cons_of_mem _ hp)
      exact ⟨xb p.1 _ this.1 (fun t => t) (ne p hp), this.2⟩
  · obtain ⟨b, dx, vs, e1, e2, e3, e4⟩ := ok.obs n k fs q
    refine ⟨b, dx, vs, e1, xb b _ e2 (fun t => t) fun z => ?_, e3, st.reps ok.zl e4⟩
    subst z
    rw [pa.1] at e2; cases e2
theorem noErr_ok {s : Type} {r : Out s} {x : s} (h : r.noErr = .ok x) : r = .ok x := by
  cases r <;> first | exact h | exact nomatch h
theorem lc_ok {t : Tg} {fi : En → Out (List D × En)} {fc : En → Out (Bool × En)} {fe : En → Out (D × En)} (hsub : ∀ i ∈ t.slots, i ∈ vs) {Q : VK}
    (h : tW c Wx true (fun e => (fi e).bind fun (ds, e1) => if ownFree e1.sl vs = true then (compL (asg t) fc fe vs ds (e1.wipe vs) []).noErr.bind fun (xs, e2) => .ok (.list xs, e2.back e1 vs) else .bad) σ H Q) :
    tLc (tI c Wx fi) (tG c t) (tB c Wn fc) (tV c Wn fe) vs σ H Q := by
  obtain ⟨G, e, ok, p⟩ := h
  refine ⟨G, e, ok, ?_⟩
  dsimp only at p
  cases q : fi e with
  | err x => rw [q] at p; exact p
  | bad => rw [q] at p; exact p.elim
  | ok r =>
    obtain ⟨ds, e1⟩ := r
    rw [q] at p
    dsimp only [Out.bind] at p
    intro J H1 G1 P st1 ok1 src hP D hD
    by_cases hf : ownFree e1.sl vs = true
    · rw [if_pos hf] at p
      cases qr : (compL (asg t) fc fe vs ds (e1.wipe vs) []).noErr with
      | err x => exact absurd qr ne_noErr
      | bad => rw [qr] at p; exact p.elim
      | ok r =>
        obtain ⟨xs, e2⟩ := r
        rw [qr] at p
        have qr := noErr_ok qr
        dsimp only at p
        have hn := ownFree_M ok1 hf
        have hDn : ∀ o, H1 D = some o → isTbl o := fun o z => by rw [hD] at z; cases z
        obtain ⟨nw, ne⟩ := new_of ok1 hDn
        have sm := same_upd (o := .lst []) hD
        refine ⟨fun i m H' => i + m = ds.length ∧ ∃ (G2 : Gh) (av : List V) (acc : List PyData) (e' : En), G2.M = G1.M ∧ G2.X = (D, av) :: G1.X ∧ StepS c G1 H1 G2 H' ∧ Ok c G2 (L2.wipe σ vs) H' e' ∧ Reps (c.wd G2) H' av acc ∧ P G2 H' ∧ compL (asg t) fc fe vs (ds.drop i) e' acc = .ok (xs, e2),
          ⟨ds.length, by omega, ⟨G1.M, G1.O, (D, []) :: G1.X⟩, [], [], _, rfl, rfl, hide_step hDn (.of sm), (ok1.hide hDn (.of sm) (ok1.fr.2.ext sm) upd_same).wipe hn, .nil, src.stay ok1.zl hP (hide_step hDn (.of sm)), qr⟩,
          fun i m H' ⟨hm, G2, av, acc, e', hM2, hX2, st2, ok2, ra, hP2, qc⟩ => ?_⟩
        cases m with
        | zero =>
          left
          rw [List.drop_eq_nil_of_le (by omega)] at qc
          cases qc
          refine ⟨src.stop i hP2 (by omega), p (.ref D) H' G2 (hM2.trans st1.M) (st1.s.trans st2) (Ok.back ok2 ok1 hM2 st2 hf) ⟨D, av, _, by rw [hX2, st1.X], rfl, rfl, ra, nw, fun q hq => ne q (by rw [st1.X]; exact hq)⟩⟩
        | succ m =>
          right
          have hlt : i < ds.length := by omega
          rw [List.drop_eq_getElem_cons hlt] at qc
          refine ⟨src.go i hP2 hlt, _, fun H' h => ⟨m, Nat.lt_succ_self m, by omega, h⟩, fun x H3 y => ?_⟩
          obtain ⟨sm3, rx⟩ := src.yld i ok2.zl hP2 y (List.getElem?_eq_getElem hlt)
          unfold compL at qc
          cases qa : asg t ds[i] e' with
          | err x => exact ((tg_ne t).1 _ _ _ qa).elim
          | bad => rw [qa] at qc; cases qc
          | ok e3 =>
            rw [qa] at qc
            dsimp only [Out.bind] at qc
            have s3 : StepS c G2 H' G2 H3 := (Step.of_ext (c := c) (G := G2) (.of sm3)).s
            refine ⟨G2, e', ds[i], e3, ok2.same sm3, rx, qa, fun σ4 H4 G4 on4 ⟨hM4, hX4⟩ st4 ok4 => ?_⟩
            have hM4 : G4.M = G2.M := by
              rw [hM4]
              exact wipeM_none _ _ fun i hi a => by rw [hM2]; exact hn i (hsub i hi) a
            have hw : L2.wipe σ4 vs = L2.wipe σ vs := by
              have := on4.mono hsub
              unfold Only at this
              rw [this]
              apply List.ext_getElem?
              intro i
              simp only [wipe_get]
              by_cases hi : i ∈ vs
              · rw [if_pos hi, if_pos hi]; cases σ[i]? <;> rfl
              · rw [if_neg hi, if_neg hi]
            have hn4 : ∀ i ∈ vs, ∀ a, G4.M[i]? ≠ some (some a) := by rw [hM4, hM2]; exact hn
            refine ⟨hw, G4, e3, ok4, ?_⟩
            cases qf : fc e3 with
            | err x => rw [qf] at qc; cases qc
            | bad => rw [qf] at qc; cases qc
            | ok r =>
              obtain ⟨b, e4⟩ := r
              rw [qf] at qc
              dsimp only at qc
              intro b' H5 G5 st5 ok5 rb
              cases rb
              have st25 : StepS c G2 H' G5 H5 := (s3.trans st4).trans st5.s
              cases b with
              | false =>
                rw [if_neg (by decide)] at qc
                refine ⟨G5, av, acc, e4.wipe vs, st5.M.trans (hM4.trans hM2), by rw [st5.X, hX4, hX2], st2.trans st25, ?_, st25.reps ok2.zl ra, src.stay ok2.zl hP2 st25, qc⟩
                have := Ok.wipe (vs := vs) ok5 (by rw [st5.M]; exact hn4)
                rw [hw] at this
                exact this
              | true =>
                rw [if_pos rfl] at qc
                refine ⟨G5, e4, ok5, ?_⟩
                cases qe : fe e4 with
                | err x => rw [qe] at qc; cases qc
                | bad => rw [qe] at qc; cases qc
                | ok r =>
                  obtain ⟨z, e5⟩ := r
                  rw [qe] at qc
                  dsimp only at qc
                  by_cases hl : acc.length < 16777216
                  · rw [if_pos hl] at qc
                    intro y H6 G6 st6 ok6 ry
                    have hX6 : G6.X = (D, av) :: G1.X := by rw [st6.X, st5.X, hX4, hX2]
                    obtain ⟨ok7, st7⟩ := ok6.grow (ys := av ++ [y]) hX6 nw ne
                    have st26 : StepS c G2 H' G6 H6 := st25.trans st6.s
                    have hM6 : G6.M = G1.M := st6.M.trans (st5.M.trans (hM4.trans hM2))
                    refine ⟨av, (ok6.pin (D, av) (by rw [hX6]; exact List.mem_cons_self)).1, by rw [ra.length, sz]; exact hl, ⟨G6.M, G6.O, (D, av ++ [y]) :: G1.X⟩, av ++ [y], acc ++ [z], e5.wipe vs, hM6, rfl, (st2.trans st26).trans st7, ?_, ((st26.trans st7).reps ok2.zl ra).append (.cons (st7.rep ok6.zl ry) .nil), src.stay ok2.zl hP2 (st26.trans st7), qc⟩
                    have := Ok.wipe (vs := vs) ok7 (by show ∀ i ∈ vs, ∀ a, G6.M[i]? ≠ _; rw [hM6]; exact hn)
                    rw [hw] at this
                    exact this
                  · rw [if_neg hl] at qc; cases qc
    · rw [if_neg hf] at p; exact p.elim
end
end DV
set_option Elab.async false
set_option linter.all false
set_option maxRecDepth 100000
set_option maxHeartbeats 4000000
/-! Whatever text a small text stands for comes to what the small text comes to: expressions. -/
namespace DV
open PySem PySem.Spec PyProof.Rows L2

def nice : Expr → Bool
  | .Starred _ _ => false
  | .Set _ _ _ => false
  | .SetComp _ _ _ _ => false
  | .DictComp _ _ _ _ _ => false
  | _ => true
theorem nice_star {x : Expr} (h : nice x = true) : noStar x = true := by
  cases x <;> first | rfl | exact nomatch h
theorem nice_mark {x : Expr} {op : CmpOp} (h : nice x = true) : behindInMarks op x = false := by
  cases x <;> first | rfl | exact nomatch h
theorem nice_fold {x : Expr} {env : PySem.Env} (h : nice x = true) : ∀ v, foldedSetIterable x env v = pure v := by
  intro v
  cases x <;> first | rfl | exact nomatch h
def FmOk (k : Nat) (g : Gd) (x : Fm) : Prop := ∀ (c : Ctx) X N b Wx, c.toGd = g → At X c N b k Wx → ∀ e l, x.m N b e = some l → plainT e = true ∧ nice e = true ∧ ∀ fs, PA X l (tAs c Wx fs) → PE X e (tV c Wx fun e => (fs e).bind fun (xs, e1) => (x.f xs).at e1)
def GbOk (c : Gd) (x : Str) (d : D) : Prop := ∃ u v, c.mg x = some u ∧ RelV v u ∧ ∀ W H, W.K = c.K → Rep W H v d
/-- x(lambda: ..): what comes of what the lambda comes to -/
def LamOk (k : Nat) (gd : Gd) (x : Str) (g : Out D → Out D) : Prop := ∀ (c : Ctx) X N b Wx, c.toGd = gd → At X c N b k Wx → b.lm = true → ∀ (body : Expr) (s : Scope) (p lp pos : Pos) (f : En → Out (D × En)), Gl X x → (x == ("__debug__" : Str)) = false → LamX.LamS X.env.scope s →
  (∀ (c' : Ctx) X' Wx', c'.toGd = gd → At X' c' N ⟨s, some s, false⟩ (k - 2) Wx' → PE X' body (tV c' Wx' f)) → PE X (.Call (.Name x p) [.Lambda ⟨[], [], none, [], [], none, []⟩ body s lp] [] pos) (tV c Wx fun e => (g ((f e.shut).map (·.1))).at e)
/-- the calls, the names of the module and the own forms in a text are as promised -/
def okE : Nat → Gd → E → Prop
  | k, c, .var _ => True
  | k, c, .cst _ => True
  | k, c, .glob x d => GbOk c x d
  | k, c, .neg a => okE k c a
  | k, c, .bin _ a b => okE k c a ∧ okE k c b
  | k, c, .cmp _ a b => okE k c a ∧ okE k c b
  | k, c, .chain _ _ a b d => okE k c a ∧ okE k c b ∧ okE k c d
  | k, c, .not a => okE k c a
  | k, c, .and a b => okE k c a ∧ okE k c b
  | k, c, .or a b => okE k c a ∧ okE k c b
  | k, c, .ite a b d => okE k c a ∧ okE k c b ∧ okE k c d
  | k, c, .tup es => okE k c es
  | k, c, .lst es => okE k c es
  | k, c, .cat a b => okE k c a ∧ okE k c b
  | k, c, .call x f es => CallC c k x (spD c.K c.mg c.T f) ∧ okE k c es
  | k, c, .callF x f es => CallC c k x (spF c.K c.mg c.T f) ∧ okE k c es
  | k, c, .callB x f _ es => CallC c k x (spB c.K c.mg c.T f) ∧ okE k c es
  | k, c, .bi _ es => okE k c es
  | k, c, .isi a T => (bootBuiltins (Str.ofString T) = some (.type T) ∧ c.mg (Str.ofString T) = none) ∧ okE k c a
  | k, c, .ix a b => okE k c a ∧ okE k c b
  | k, c, .sl a b d => okE k c a ∧ okE k c b ∧ okE k c d
  | k, c, .rev a => okE k c a
  | k, c, .comp elt _ it cond _ => okE k c elt ∧ okE k c it ∧ okE k c cond
  | k, c, .ownNil _ _ => True
  | k, c, .ownLen _ => True
  | k, c, .ownIx _ e => okE k c e
  | k, c, .pop0 _ => True
  | k, c, .popE _ => True
  | k, c, .ext x es => FmOk k c x ∧ okE k c es
  | k, c, .lam x g a => LamOk k c x g ∧ okE (k - 2) c a
  | k, c, .nil => True
  | k, c, .cons a b => okE k c a ∧ okE k c b
  | k, c, .no => True
  | k, c, .rng1 a => okE k c a
  | k, c, .rng2 a b => okE k c a ∧ okE k c b
  | k, c, .enum a => okE k c a
  | k, c, .zip a b => okE k c a ∧ okE k c b

/-- as a value -/
structure Sv (X : Cx) (c : Ctx) (Wx : WX) (m : E) (x : Expr) : Prop where
  nice : nice x = true
  pe : PE X x (tV c Wx (ev m).v)
  pt : PT X x (tB c Wx (ev m).t)
  pw : ∀ op l p, x = .BoolOp op l p → PW X x (tB c Wx (ev m).t)
  fr : frE m = true → PE X x (tW c Wx true (ev m).v)
structure Sd (k : Nat) (c : Ctx) (m : E) : Prop where
  v : ∀ {X N b Wx}, At X c N b k Wx → ∀ x, (mt N m).v b x = true → Sv X c Wx m x
  as : ∀ {X N b Wx}, At X c N b k Wx → ∀ l, (mt N m).as b l = true → PA X l (tAs c Wx (ev m).as) ∧ l.all noStar = true
  p : ∀ {X N b Wx}, At X c N b k Wx → ∀ o, (mt N m).p b o = true → PO X o (tP c Wx (ev m).p)
  t : ∀ {X N b Wx}, At X c N b k Wx → ∀ l, (mt N m).c b l = true → PTs X l (tB c Wx (ev m).c)
  i : ∀ {X N b Wx}, At X c N b k Wx → ∀ tg x, (mt N m).i b tg x = true → PI X tg x (tI c Wx (ev m).i) ∧ nice x = true

section
variable {k : Nat} {c : Ctx} {m : E}
theorem sd_of (hm : ∀ N, ∃ g, mt N m = mtV g) (he : ∃ v t, ev m = mkT v t) (hv : ∀ {X N b Wx}, At X c N b k Wx → ∀ x, (mt N m).v b x = true → Sv X c Wx m x) : Sd k c m := by
  obtain ⟨fv, ft, he⟩ := he
  refine ⟨hv, fun {X N b Wx} a l h => ?_, fun {X N b Wx} a o h => ?_, fun {X N b Wx} a l h => ?_, fun {X N b Wx} a tg x h => ?_⟩
  · obtain ⟨g, hg⟩ := hm N; rw [hg] at h; cases h
  · have hv := hv a
    obtain ⟨g, hg⟩ := hm N
    rw [hg] at h hv
    cases o with
    | none => cases h
    | some x =>
      have q := (hv x h).pe
      rw [he] at q ⊢
      exact p_some q
  · have hv := hv a
    obtain ⟨g, hg⟩ := hm N
    rw [hg] at h hv
    cases l with
    | nil => cases h
    | cons x l =>
      cases l with
      | cons _ _ => cases h
      | nil =>
        have q := (hv x h).pt
        rw [he] at q ⊢
        exact pts_one q
  · have hv := hv a
    obtain ⟨g, hg⟩ := hm N
    rw [hg] at h hv
    have q := (hv x h)
    refine ⟨?_, q.nice⟩
    have q := q.pe
    rw [he] at q ⊢
    exact i_seq a.hK q
/-- a value alone -/
theorem sv_of {X : Cx} {Wx : WX} {x : Expr} {f : En → Out (D × En)} (hK : X.K = c.K) (he : ev m = mkV f) (hf : frE m = false) (hn : nice x = true) (hp : plainT x = true) (h : PE X x (tV c Wx f)) : Sv X c Wx m x := by
  refine ⟨hn, by rw [he]; exact h, by rw [he]; exact t_truth hK hp h, fun op l p e => ?_, fun z => by rw [hf] at z; cases z⟩
  subst e; cases hp
theorem sv_fr {X : Cx} {Wx : WX} {x : Expr} {f : En → Out (D × En)} (hK : X.K = c.K) (he : ev m = mkV f) (hn : nice x = true) (hp : plainT x = true) (h : PE X x (tW c Wx true f)) : Sv X c Wx m x := by
  refine ⟨hn, by rw [he]; exact s_unF h, by rw [he]; exact t_truth hK hp (s_unF h), fun op l p e => ?_, fun _ => by rw [he]; exact h⟩
  subst e; cases hp
theorem sv_ct {X : Cx} {Wx : WX} {x : Expr} {f : En → Out (D × En)} {t : En → Out (Bool × En)} (he : ev m = mkT f t) (hf : frE m = false) (hn : nice x = true) (hb : ∀ op l p, x ≠ .BoolOp op l p) (h : PE X x (tV c Wx f)) (ht : PT X x (tB c Wx t)) : Sv X c Wx m x := by
  refine ⟨hn, by rw [he]; exact h, by rw [he]; exact ht, fun op l p e => (hb _ _ _ e).elim, fun z => by rw [hf] at z; cases z⟩
/-! operators -/
theorem bo_op {X : Cx} (o : Bo) : OpR X (binaryOp o.op) (rD2 X.K o.f) := by
  cases o
  · exact or_add
  · exact or_sub
  · exact or_mul
  · exact or_div
  · exact or_mod
  · exact or_pow
theorem cm_op {X : Cx} (hu : X.A.units + 65 < cLine) (o : Cm) : OpR X (compareOp o.op) (rD2 X.K o.f) := by
  cases o
  · exact or_eq (by omega)
  · exact or_ne (by omega)
  · exact or_cmpI op_lt
  · exact or_cmpI op_le
  · exact or_cmpI op_gt
  · exact or_cmpI op_ge
  · exact or_in hu
  · exact or_notIn hu
  · exact or_is
  · exact or_isNot
end
end DV
set_option Elab.async false
set_option linter.all false
set_option maxRecDepth 100000
set_option maxHeartbeats 4000000
/-! .. each form. -/
namespace DV
open PySem PySem.Spec PyProof.Rows L2

theorem bo_ne (o : Bo) : ∀ x y m, o.f x y ≠ .err m := by
  intro x y m h
  cases o <;> (simp only [Bo.f] at h; first | unfold addD at h | unfold subD at h | unfold mulD at h | unfold divD at h | unfold modD at h | unfold powD at h) <;> repeat' (first | cases h | split at h)
theorem cm_ne (o : Cm) : ∀ x y m, o.f x y ≠ .err m := by
  intro x y m h
  cases o <;> (simp only [Cm.f] at h; first | unfold eqD at h | unfold neD at h | unfold cmpI at h | unfold isIn at h | unfold isN at h) <;> repeat' (first | cases h | split at h)
theorem bi_ne (o : Bi) : ∀ x m, o.f x ≠ .err m := by
  intro x m h
  cases o <;> (simp only [Bi.f] at h; first | unfold lenD at h | unfold absD at h | unfold maxD at h | unfold minD at h | unfold intD at h | unfold strD at h | unfold tupleD at h | unfold listD at h | unfold allD at h | unfold anyD at h) <;> repeat' (first | cases h | split at h)
section
variable {k : Nat} {c : Ctx}
theorem sd_var (i : Nat) : Sd k c (.var i) := by
  refine sd_of (fun N => ⟨_, rfl⟩) ⟨_, _, rfl⟩ fun {X N b Wx} a x h => ?_
  simp only [mt, mtV] at h
  split at h
  · obtain ⟨h1, h2, h3, h4⟩ := a.nm h
    exact sv_of a.hK rfl rfl rfl rfl (s_var h1 h2 h3 h4)
  · cases h
theorem sd_cst (d : D) : Sd k c (.cst d) := by
  refine sd_of (fun N => ⟨_, rfl⟩) ⟨_, _, rfl⟩ fun {X N b Wx} a x h => ?_
  simp only [mt, mtV] at h
  split at h
  · rename_i c' kd p
    refine sv_of (c := c) a.hK rfl rfl rfl rfl ?_
    unfold cstB at h
    split at h
    · exact s_const pe_non fun _ _ => .non
    · have := beq_iff_eq.mp h; subst this; exact s_const pe_bl fun _ _ => .bl _
    · have := of_decide_eq_true h; subst this; exact s_const pe_int fun _ _ => .int _
    · have := of_decide_eq_true h; subst this; exact s_const pe_str fun _ _ => .str _
    · cases h
  · cases h
theorem sd_glob {x : Str} {d : D} (g : GbOk c.toGd x d) : Sd k c (.glob x d) := by
  refine sd_of (fun N => ⟨_, rfl⟩) ⟨_, _, rfl⟩ fun {X N b Wx} a y h => ?_
  simp only [mt, mtV] at h
  split at h
  · obtain ⟨rfl, h2, h3, h4⟩ := a.gl h
    obtain ⟨u, v, e1, e2, e3⟩ := g
    refine sv_of (c := c) a.hK rfl rfl rfl rfl ?_
    refine PE.imp (pe_glob h2 (by rw [a.hmg]; exact e1) e2 h3) fun σ H Q ⟨G, e, ok, p⟩ => p v H G (.refl _ _ _) ok (e3 _ _ rfl)
  · cases h
theorem sd_neg {a : E} (ih : Sd k c a) : Sd k c (.neg a) := by
  refine sd_of (fun N => ⟨_, rfl⟩) ⟨_, _, rfl⟩ fun {X N b Wx} ax x h => ?_
  simp only [mt, mtV] at h
  split at h
  · exact sv_of ax.hK rfl rfl rfl rfl (s_neg (ih.v ax _ h).pe)
  · cases h
theorem sd_bin {o : Bo} {a d : E} (ia : Sd k c a) (id : Sd k c d) : Sd k c (.bin o a d) := by
  refine sd_of (fun N => ⟨_, rfl⟩) ⟨_, _, rfl⟩ fun {X N b Wx} ax x h => ?_
  simp only [mt, mtV] at h
  split at h
  · simp only [Bool.and_eq_true, decide_eq_true_eq] at h
    obtain ⟨⟨rfl, h1⟩, h2⟩ := h
    have ho := bo_op (X := X) o
    refine sv_of ax.hK rfl rfl rfl rfl (s_op2 (by rw [ax.hK]) (bo_ne o) (pe_op ho (ia.v ax _ h1).pe (id.v ax _ h2).pe))
  · cases h
theorem At.u65 {X : Cx} {N : List Str} {b : Bl} {Wx : WX} (a : At X c N b k Wx) : X.A.units + 65 < cLine := by
  have := a.room.un
  omega
theorem sd_cmp {o : Cm} {a d : E} (ia : Sd k c a) (id : Sd k c d) : Sd k c (.cmp o a d) := by
  refine sd_of (fun N => ⟨_, rfl⟩) ⟨_, _, rfl⟩ fun {X N b Wx} ax x h => ?_
  simp only [mt, mtV] at h
  split at h
  · simp only [Bool.and_eq_true, decide_eq_true_eq] at h
    obtain ⟨⟨rfl, h1⟩, h2⟩ := h
    have ho := cm_op ax.u65 o
    rw [ax.hK] at ho
    have i1 := ia.v ax _ h1
    have i2 := id.v ax _ h2
    exact sv_ct rfl rfl rfl (fun _ _ _ z => nomatch z) (s_op2 rfl (cm_ne o) (pe_cmpR ho i1.pe i2.pe (nice_mark i2.nice))) (t_cmp ho (cm_ne o) i1.pe i2.pe (nice_mark i2.nice))
  · cases h
theorem sd_chain {o q : Cm} {a d e : E} (ia : Sd k c a) (id : Sd k c d) (ie : Sd k c e) : Sd k c (.chain o q a d e) := by
  refine sd_of (fun N => ⟨_, rfl⟩) ⟨_, _, rfl⟩ fun {X N b Wx} ax x h => ?_
  simp only [mt, mtV] at h
  split at h
  · simp only [Bool.and_eq_true, decide_eq_true_eq] at h
    obtain ⟨⟨⟨⟨rfl, rfl⟩, h1⟩, h2⟩, h3⟩ := h
    have ho := cm_op ax.u65 o
    have ho' := cm_op ax.u65 q
    rw [ax.hK] at ho ho'
    have i1 := ia.v ax _ h1
    have i2 := id.v ax _ h2
    have i3 := ie.v ax _ h3
    exact sv_ct rfl rfl rfl (fun _ _ _ z => nomatch z) (s_chain ho ho' (cm_ne o) (cm_ne q) i1.pe i2.pe i3.pe (nice_mark i3.nice)) (t_chain ho ho' (cm_ne o) (cm_ne q) i1.pe i2.pe i3.pe (nice_mark i3.nice))
  · cases h
theorem sd_not {a : E} (ih : Sd k c a) : Sd k c (.not a) := by
  refine sd_of (fun N => ⟨_, rfl⟩) ⟨_, _, rfl⟩ fun {X N b Wx} ax x h => ?_
  simp only [mt, mtV] at h
  split at h
  · have i1 := ih.v ax _ h
    exact sv_ct rfl rfl rfl (fun _ _ _ z => nomatch z) (s_not ax.hK i1.pe) (t_not i1.pt)
  · cases h
theorem sd_and {a d : E} (ia : Sd k c a) (id : Sd k c d) : Sd k c (.and a d) := by
  refine sd_of (fun N => ⟨_, rfl⟩) ⟨_, _, rfl⟩ fun {X N b Wx} ax x h => ?_
  simp only [mt, mtV] at h
  split at h
  · rename_i pp
    simp only [Bool.and_eq_true] at h
    have i1 := ia.v ax _ h.1
    have i2 := id.v ax _ h.2
    have pw := t_and (pos := pp) i1.pt (pw_and1 (pos := pp) i2.pt)
    exact ⟨rfl, s_and i1.pe (pe_one i2.pe), pw.pt, fun op l p e => by cases e; exact pw, fun z => nomatch z⟩
  · simp only [Bool.and_eq_true] at h
    have i1 := ia.v ax _ h.1
    have i2 := id.v ax _ h.2
    have pw := t_and i1.pt (i2.pw _ _ _ rfl)
    exact ⟨rfl, s_and i1.pe i2.pe, pw.pt, fun op l p e => by cases e; exact pw, fun z => nomatch z⟩
  · cases h
theorem sd_or {a d : E} (ia : Sd k c a) (id : Sd k c d) : Sd k c (.or a d) := by
  refine sd_of (fun N => ⟨_, rfl⟩) ⟨_, _, rfl⟩ fun {X N b Wx} ax x h => ?_
  simp only [mt, mtV] at h
  split at h
  · rename_i pp
    simp only [Bool.and_eq_true] at h
    have i1 := ia.v ax _ h.1
    have i2 := id.v ax _ h.2
    have pw := t_or (pos := pp) i1.pt (pw_or1 (pos := pp) i2.pt)
    exact ⟨rfl, s_or i1.pe (pe_one i2.pe), pw.pt, fun op l p e => by cases e; exact pw, fun z => nomatch z⟩
  · simp only [Bool.and_eq_true] at h
    have i1 := ia.v ax _ h.1
    have i2 := id.v ax _ h.2
    have pw := t_or i1.pt (i2.pw _ _ _ rfl)
    exact ⟨rfl, s_or i1.pe i2.pe, pw.pt, fun op l p e => by cases e; exact pw, fun z => nomatch z⟩
  · cases h
theorem sd_ite {a d e : E} (ia : Sd k c a) (id : Sd k c d) (ie : Sd k c e) : Sd k c (.ite a d e) := by
  refine sd_of (fun N => ⟨_, rfl⟩) ⟨_, _, rfl⟩ fun {X N b Wx} ax x h => ?_
  simp only [mt, mtV] at h
  split at h
  · simp only [Bool.and_eq_true] at h
    have i1 := ia.v ax _ h.1.1
    have i2 := id.v ax _ h.1.2
    have i3 := ie.v ax _ h.2
    exact sv_ct rfl rfl rfl (fun _ _ _ z => nomatch z) (s_ite i1.pt i2.pe i3.pe) (t_ite i1.pt i2.pt i3.pt)
  · cases h
theorem sd_tup {a : E} (ih : Sd k c a) : Sd k c (.tup a) := by
  refine sd_of (fun N => ⟨_, rfl⟩) ⟨_, _, rfl⟩ fun {X N b Wx} ax x h => ?_
  simp only [mt, mtV] at h
  split at h
  · exact sv_of ax.hK rfl rfl rfl rfl (s_tup (ih.as ax _ h).1)
  · cases h
theorem sd_lst {a : E} (ih : Sd k c a) : Sd k c (.lst a) := by
  refine sd_of (fun N => ⟨_, rfl⟩) ⟨_, _, rfl⟩ fun {X N b Wx} ax x h => ?_
  simp only [mt, mtV] at h
  split at h
  · exact sv_fr ax.hK rfl rfl rfl (s_lstF (ih.as ax _ h).1)
  · cases h
theorem sd_cat {a d : E} (ia : Sd k c a) (id : Sd k c d) : Sd k c (.cat a d) := by
  refine sd_of (fun N => ⟨_, rfl⟩) ⟨_, _, rfl⟩ fun {X N b Wx} ax x h => ?_
  simp only [mt, mtV] at h
  split at h
  · simp only [Bool.and_eq_true, decide_eq_true_eq] at h
    obtain ⟨⟨rfl, h1⟩, h2⟩ := h
    exact sv_fr ax.hK rfl rfl rfl (s_catF (ia.v ax _ h1).pe (id.v ax _ h2).pe)
  · cases h
theorem all2 {x : Expr} {l : List Expr} (h : (x :: l).all noStar = true) : noStar x = true ∧ l.all noStar = true := by
  rwa [List.all_cons, Bool.and_eq_true] at h
theorem sd_call {x : Str} {f : List D → Out D} {a : E} (hp : CallC c.toGd k x (spD c.K c.mg c.T f)) (ih : Sd k c a) : Sd k c (.call x f a) := by
  refine sd_of (fun N => ⟨_, rfl⟩) ⟨_, _, rfl⟩ fun {X N b Wx} ax x h => ?_
  simp only [mt, mtV] at h
  split at h
  · simp only [Bool.and_eq_true] at h
    obtain ⟨rfl, h2, h3, h4⟩ := ax.gl h.1
    have i1 := ih.as ax _ h.2
    exact sv_of ax.hK rfl rfl rfl rfl (s_call ax.hK ax.hmg ax.tk ax.room (ax.call hp) h2 h3 (all2 i1.2).1 (all2 i1.2).2 i1.1)
  · cases h
theorem sd_callF {x : Str} {f : List D → Out (List D)} {a : E} (hp : CallC c.toGd k x (spF c.K c.mg c.T f)) (ih : Sd k c a) : Sd k c (.callF x f a) := by
  refine sd_of (fun N => ⟨_, rfl⟩) ⟨_, _, rfl⟩ fun {X N b Wx} ax x h => ?_
  simp only [mt, mtV] at h
  split at h
  · simp only [Bool.and_eq_true] at h
    obtain ⟨rfl, h2, h3, h4⟩ := ax.gl h.1
    have i1 := ih.as ax _ h.2
    exact sv_fr ax.hK rfl rfl rfl (s_callFF ax.hK ax.hmg ax.tk ax.room (ax.call hp) h2 h3 (all2 i1.2).1 (all2 i1.2).2 i1.1)
  · cases h
theorem sd_callB {x : Str} {f : List D → List D → Out (D × List D)} {j : Nat} {a : E} (hp : CallC c.toGd k x (spB c.K c.mg c.T f)) (ih : Sd k c a) : Sd k c (.callB x f j a) := by
  refine sd_of (fun N => ⟨_, rfl⟩) ⟨_, _, rfl⟩ fun {X N b Wx} ax x h => ?_
  simp only [mt, mtV] at h
  split at h
  · simp only [Bool.and_eq_true] at h
    obtain ⟨rfl, h2, h3, h4⟩ := ax.gl h.1.1
    obtain ⟨n1, n2, n3, n4⟩ := ax.nm h.1.2
    have i1 := ih.as ax _ h.2
    exact sv_of ax.hK rfl rfl rfl rfl (s_callB ax.hK ax.hmg ax.tk ax.room (ax.call hp) h2 h3 i1.2 (pe_var n1 n2 n3 n4) i1.1)
  · cases h
theorem sd_bi {o : Bi} {a : E} (ih : Sd k c a) : Sd k c (.bi o a) := by
  refine sd_of (fun N => ⟨_, rfl⟩) ⟨_, _, rfl⟩ fun {X N b Wx} ax x h => ?_
  simp only [mt, mtV] at h
  split at h
  · simp only [Bool.and_eq_true] at h
    obtain ⟨h1, h2, h3, h4⟩ := ax.gl h.1
    subst h1
    have i1 := ih.as ax _ h.2
    have hK := ax.hK
    have cl := ax.calm
    refine sv_of hK rfl rfl rfl rfl ?_
    cases o
    · exact s_biB (id := "") (by rw [← hK]; exact cr_len) (bi_ne .len) h2 (ax.free _ (by decide)) boot_len h4 h3 (all2 i1.2).1 (all2 i1.2).2 i1.1
    · exact s_biB (id := "") (by rw [← hK]; exact cr_abs) (bi_ne .abs) h2 (ax.free _ (by decide)) PyProof.Rows.boot_abs h4 h3 (all2 i1.2).1 (all2 i1.2).2 i1.1
    · exact s_biB (id := "") (by rw [← hK]; exact cr_max2 cl) (bi_ne .max) h2 (ax.free _ (by decide)) PyProof.Rows.boot_max h4 h3 (all2 i1.2).1 (all2 i1.2).2 i1.1
    · exact s_biB (id := "") (by rw [← hK]; exact cr_min2 cl) (bi_ne .min) h2 (ax.free _ (by decide)) PyProof.Rows.boot_min h4 h3 (all2 i1.2).1 (all2 i1.2).2 i1.1
    · exact s_biT (id := "") (by rw [← hK]; exact cr_int) (bi_ne .int) h2 (ax.free _ (by decide)) PyProof.Rows.boot_int h4 h3 (all2 i1.2).1 (all2 i1.2).2 i1.1
    · exact s_biT (id := "") (by rw [← hK]; exact cr_str) (bi_ne .str) h2 (ax.free _ (by decide)) PyProof.Rows.boot_str h4 h3 (all2 i1.2).1 (all2 i1.2).2 i1.1
    · exact s_biT (id := "") (by rw [← hK]; exact cr_tuple) (bi_ne .tuple) h2 (ax.free _ (by decide)) PyProof.Rows.boot_tuple h4 h3 (all2 i1.2).1 (all2 i1.2).2 i1.1
    · exact s_biT (id := "") (by rw [← hK]; exact cr_list) (bi_ne .list) h2 (ax.free _ (by decide)) PyProof.Rows.boot_list h4 h3 (all2 i1.2).1 (all2 i1.2).2 i1.1
    · exact s_biB (id := "") (by rw [← hK]; exact cr_allD cl) (bi_ne .all) h2 (ax.free _ (by decide)) PyProof.Rows.boot_all h4 h3 (all2 i1.2).1 (all2 i1.2).2 i1.1
    · exact s_biB (id := "") (by rw [← hK]; exact cr_anyD cl) (bi_ne .any) h2 (ax.free _ (by decide)) PyProof.Rows.boot_any h4 h3 (all2 i1.2).1 (all2 i1.2).2 i1.1
  · cases h
theorem sd_isi {a : E} {T : String} (hT : bootBuiltins (Str.ofString T) = some (.type T) ∧ c.mg (Str.ofString T) = none) (ih : Sd k c a) : Sd k c (.isi a T) := by
  refine sd_of (fun N => ⟨_, rfl⟩) ⟨_, _, rfl⟩ fun {X N b Wx} ax x h => ?_
  simp only [mt, mtV] at h
  split at h
  · simp only [Bool.and_eq_true] at h
    obtain ⟨h1, h2, h3, h4⟩ := ax.gl h.1.1
    subst h1
    obtain ⟨t1, t2, t3, t4⟩ := ax.gl h.1.2
    subst t1
    have i1 := ih.v ax _ h.2
    exact sv_of ax.hK rfl rfl rfl rfl (s_isi ax.hK h2 (ax.free _ (by decide)) t2 (by rw [ax.hmg]; exact hT.2) hT.1 t4 t3 (nice_star i1.nice) i1.pe)
  · cases h
theorem sd_ix {a d : E} (ia : Sd k c a) (id : Sd k c d) : Sd k c (.ix a d) := by
  refine sd_of (fun N => ⟨_, rfl⟩) ⟨_, _, rfl⟩ fun {X N b Wx} ax x h => ?_
  simp only [mt, mtV] at h
  split at h
  · simp only [Bool.and_eq_true] at h
    exact sv_of ax.hK rfl rfl rfl rfl (s_ix ax.hK h.1.1 (ia.v ax _ h.1.2).pe (id.v ax _ h.2).pe)
  · cases h
theorem sd_sl {a d e : E} (ia : Sd k c a) (id : Sd k c d) (ie : Sd k c e) : Sd k c (.sl a d e) := by
  refine sd_of (fun N => ⟨_, rfl⟩) ⟨_, _, rfl⟩ fun {X N b Wx} ax x h => ?_
  simp only [mt, mtV] at h
  split at h
  · simp only [Bool.and_eq_true] at h
    exact sv_of ax.hK rfl rfl rfl rfl (s_sl ax.hK (ia.v ax _ h.1.1).pe (id.p ax _ h.1.2) (ie.p ax _ h.2))
  · cases h
theorem sd_rev {a : E} (ia : Sd k c a) : Sd k c (.rev a) := by
  refine sd_of (fun N => ⟨_, rfl⟩) ⟨_, _, rfl⟩ fun {X N b Wx} ax x h => ?_
  simp only [mt, mtV] at h
  split at h
  · simp only [Bool.and_eq_true, decide_eq_true_eq] at h
    obtain ⟨rfl, h⟩ := h
    exact sv_of ax.hK rfl rfl rfl rfl (s_rev ax.hK (ia.v ax _ h).pe)
  · cases h
theorem sd_ownNil (i : Nat) (neg : Bool) : Sd k c (.ownNil i neg) := by
  refine sd_of (fun N => ⟨_, rfl⟩) ⟨_, _, rfl⟩ fun {X N b Wx} ax x h => ?_
  simp only [mt, mtV] at h
  split at h
  · simp only [Bool.and_eq_true, decide_eq_true_eq] at h
    obtain ⟨n1, n2, n3, n4⟩ := ax.nm h.2
    have hu := ax.room.units
    exact sv_ct rfl rfl rfl (fun _ _ _ z => nomatch z) (s_ownNil h.1 hu ax.hK (pe_var n1 n2 n3 n4)) (t_ownNil h.1 hu ax.hK (pe_var n1 n2 n3 n4))
  · cases h
theorem sd_ownLen (i : Nat) : Sd k c (.ownLen i) := by
  refine sd_of (fun N => ⟨_, rfl⟩) ⟨_, _, rfl⟩ fun {X N b Wx} ax x h => ?_
  simp only [mt, mtV] at h
  split at h
  · simp only [Bool.and_eq_true] at h
    obtain ⟨h1, h2, h3, h4⟩ := ax.gl h.1
    subst h1
    obtain ⟨n1, n2, n3, n4⟩ := ax.nm h.2
    exact sv_of ax.hK rfl rfl rfl rfl (s_ownLen h2 (ax.free _ (by decide)) (pe_var n1 n2 n3 n4))
  · cases h
theorem sd_ownIx {i : Nat} {a : E} (ia : Sd k c a) : Sd k c (.ownIx i a) := by
  refine sd_of (fun N => ⟨_, rfl⟩) ⟨_, _, rfl⟩ fun {X N b Wx} ax x h => ?_
  simp only [mt, mtV] at h
  split at h
  · simp only [Bool.and_eq_true] at h
    obtain ⟨n1, n2, n3, n4⟩ := ax.nm h.1.2
    exact sv_of ax.hK rfl rfl rfl rfl (s_ownIx h.1.1 (pe_var n1 n2 n3 n4) (ia.v ax _ h.2).pe)
  · cases h
theorem sd_pop0 (i : Nat) : Sd k c (.pop0 i) := by
  refine sd_of (fun N => ⟨_, rfl⟩) ⟨_, _, rfl⟩ fun {X N b Wx} ax x h => ?_
  simp only [mt, mtV] at h
  split at h
  · simp only [Bool.and_eq_true, decide_eq_true_eq] at h
    obtain ⟨⟨⟨h1, h2⟩, h3⟩, h4⟩ := h
    subst h1 h2
    obtain ⟨n1, n2, n3, n4⟩ := ax.nm h3
    exact sv_of (c := c) ax.hK rfl rfl rfl rfl (s_pop0 (pe_var n1 n2 n3 n4) h4)
  · cases h
theorem sd_popE (i : Nat) : Sd k c (.popE i) := by
  refine sd_of (fun N => ⟨_, rfl⟩) ⟨_, _, rfl⟩ fun {X N b Wx} ax x h => ?_
  simp only [mt, mtV] at h
  split at h
  · simp only [Bool.and_eq_true, decide_eq_true_eq] at h
    obtain ⟨⟨h1, h3⟩, h4⟩ := h
    subst h1
    obtain ⟨n1, n2, n3, n4⟩ := ax.nm h3
    exact sv_of (c := c) ax.hK rfl rfl rfl rfl (s_popE (pe_var n1 n2 n3 n4) h4)
  · cases h
theorem sd_ext {x : Fm} {a : E} (hx : FmOk k c.toGd x) (ih : Sd k c a) : Sd k c (.ext x a) := by
  refine sd_of (fun N => ⟨_, rfl⟩) ⟨_, _, rfl⟩ fun {X N b Wx} ax y h => ?_
  simp only [mt, mtV] at h
  split at h
  · rename_i l hl
    obtain ⟨h1, h2, h3⟩ := hx c X N b Wx rfl ax y l hl
    exact sv_of ax.hK rfl rfl h2 h1 (h3 _ (ih.as ax _ h).1)
  · cases h
theorem sd_lam {x : Str} {g : Out D → Out D} {a : E} (hx : LamOk k c.toGd x g) (ih : ∀ c' : Ctx, c'.toGd = c.toGd → Sd (k - 2) c' a) : Sd k c (.lam x g a) := by
  refine sd_of (fun N => ⟨_, rfl⟩) ⟨_, _, rfl⟩ fun {X N b Wx} ax y h => ?_
  simp only [mt, mtV] at h
  split at h
  · simp only [Bool.and_eq_true] at h
    obtain ⟨rfl, h2, h3, h4⟩ := ax.gl h.1.1.2
    have ls := LamX.lamS_by h.1.2
    rw [← ax.sc] at ls
    exact sv_of ax.hK rfl rfl rfl rfl (hx c X N b Wx rfl ax h.1.1.1 _ _ _ _ _ _ h2 h3 ls fun c' X' Wx' hc a' => ((ih c' hc).v a' _ h.2).pe)
  · cases h
theorem sd_nil : Sd k c .nil := by
  refine ⟨fun {X N b Wx} a x h => (by cases h), fun {X N b Wx} a l h => ?_, fun {X N b Wx} a x h => (by cases h), fun {X N b Wx} a x h => (by cases h), fun {X N b Wx} a t x h => (by cases h)⟩
  cases l with
  | nil => exact ⟨a_nil, rfl⟩
  | cons _ _ => cases h
theorem sd_cons {a d : E} (ia : Sd k c a) (id : Sd k c d) : Sd k c (.cons a d) := by
  refine ⟨fun {X N b Wx} a x h => (by cases h), fun {X N b Wx} ax l h => ?_, fun {X N b Wx} a x h => (by cases h), fun {X N b Wx} a x h => (by cases h), fun {X N b Wx} a t x h => (by cases h)⟩
  cases l with
  | nil => cases h
  | cons x l =>
    simp only [mt, Bool.and_eq_true] at h
    have i1 := ia.v ax _ h.1
    have i2 := id.as ax _ h.2
    exact ⟨a_cons (nice_star i1.nice) i1.pe i2.1, by rw [List.all_cons, nice_star i1.nice, i2.2]; rfl⟩
theorem sd_no : Sd k c .no := by
  refine ⟨fun {X N b Wx} a x h => (by cases h), fun {X N b Wx} ax l h => (by cases h), fun {X N b Wx} a x h => ?_, fun {X N b Wx} a l h => ?_, fun {X N b Wx} a t x h => (by cases h)⟩
  · cases x with
    | none => exact p_none
    | some x => cases h
  · cases l with
    | nil => exact ⟨fun pins s σ H Q I ⟨G, e, ok, p⟩ => pts_nil.run pins s σ H Q I (p true H G (.refl _ _ _) ok rfl)⟩
    | cons x l => cases h
theorem sd_rng1 {a : E} (ia : Sd k c a) : Sd k c (.rng1 a) := by
  refine ⟨fun {X N b Wx} a x h => (by cases h), fun {X N b Wx} ax l h => (by cases h), fun {X N b Wx} a x h => (by cases h), fun {X N b Wx} a l h => (by cases h), fun {X N b Wx} ax tg x h => ?_⟩
  simp only [mt] at h
  split at h
  · simp only [Bool.and_eq_true] at h
    obtain ⟨h1, h2, h3, h4⟩ := ax.gl h.1
    subst h1
    have i1 := ia.v ax _ h.2
    exact ⟨i_rng1 h2 (ax.free _ (by decide)) (nice_star i1.nice) i1.pe, rfl⟩
  · cases h
theorem sd_rng2 {a d : E} (ia : Sd k c a) (id : Sd k c d) : Sd k c (.rng2 a d) := by
  refine ⟨fun {X N b Wx} a x h => (by cases h), fun {X N b Wx} ax l h => (by cases h), fun {X N b Wx} a x h => (by cases h), fun {X N b Wx} a l h => (by cases h), fun {X N b Wx} ax tg x h => ?_⟩
  simp only [mt] at h
  split at h
  · simp only [Bool.and_eq_true] at h
    obtain ⟨h1, h2, h3, h4⟩ := ax.gl h.1.1
    subst h1
    have i1 := ia.v ax _ h.1.2
    have i2 := id.v ax _ h.2
    exact ⟨i_rng2 h2 (ax.free _ (by decide)) (nice_star i1.nice) (nice_star i2.nice) i1.pe i2.pe, rfl⟩
  · cases h
theorem sd_enum {a : E} (ia : Sd k c a) : Sd k c (.enum a) := by
  refine ⟨fun {X N b Wx} a x h => (by cases h), fun {X N b Wx} ax l h => (by cases h), fun {X N b Wx} a x h => (by cases h), fun {X N b Wx} a l h => (by cases h), fun {X N b Wx} ax tg x h => ?_⟩
  simp only [mt] at h
  split at h
  · simp only [Bool.and_eq_true] at h
    obtain ⟨h1, h2, h3, h4⟩ := ax.gl h.1.2
    subst h1
    have i1 := ia.v ax _ h.2
    cases tg with
    | Tuple _ _ _ => exact ⟨i_enum ax.hK h2 (ax.free _ (by decide)) (nice_star i1.nice) i1.pe, rfl⟩
    | _ => exact nomatch h.1.1
  · cases h
theorem sd_zip {a d : E} (ia : Sd k c a) (id : Sd k c d) : Sd k c (.zip a d) := by
  refine ⟨fun {X N b Wx} a x h => (by cases h), fun {X N b Wx} ax l h => (by cases h), fun {X N b Wx} a x h => (by cases h), fun {X N b Wx} a l h => (by cases h), fun {X N b Wx} ax tg x h => ?_⟩
  simp only [mt] at h
  split at h
  · simp only [Bool.and_eq_true] at h
    obtain ⟨h1, h2, h3, h4⟩ := ax.gl h.1.1.2
    subst h1
    have i1 := ia.v ax _ h.1.2
    have i2 := id.v ax _ h.2
    cases tg with
    | Tuple _ _ _ => exact ⟨i_zip ax.hK h2 (ax.free _ (by decide)) (nice_star i1.nice) (nice_star i2.nice) i1.pe i2.pe, rfl⟩
    | _ => exact nomatch h.1.1.1
  · cases h
end
end DV
set_option Elab.async false
set_option linter.all false
set_option maxRecDepth 100000
set_option maxHeartbeats 4000000
/-! .. all forms; stores from the right. -/
namespace DV
open PySem PySem.Spec PyProof.Rows L2

theorem takes0N {X : Cx} : L2N.Takes X (fun _ _ _ _ => False) := fun _ _ x => by
  obtain ⟨_, _, _, _, _, _, _, _, _, _, _, _, _, _, _, _, z⟩ := x
  exact z.elim
section
variable {k : Nat} {c : Ctx}
theorem At.nox {X : Cx} {N : List Str} {b : Bl} {Wx : WX} (a : At X c N b k Wx) : At X.nox c N b k Wn :=
  ⟨a.hN, a.nd, a.db, a.sc, a.kind, a.fn, a.hK, a.hmg, a.hP, a.hw, a.hB, a.calm, a.room, takes0N, a.free, a.lam⟩
theorem At.blk {X : Cx} {N : List Str} {b : Bl} {Wx : WX} (a : At X c N b k Wx) {s : Scope} (hs : s.kind = .function) (s0 : Shared) (H : Hp) (C : Addr) (cl : List (Str × Addr)) (fp : List Addr) :
    At (X.blk s0 H s (compEnvC s cl C X.env) fp) c N (b.inn s) k Wn :=
  ⟨a.hN, a.nd, a.db, by show relS s X.env.scope = relS s b.sc; rw [a.sc], hs, fun x h => h, a.hK, a.hmg, a.hP, a.hw, a.hB, a.calm, a.room, takes0N, a.free, fun z => Bool.noConfusion (show false = true from z)⟩
theorem blkC_kind {N : List Str} {sc s : Scope} {own : List (Str × Nat)} (h : blkC N sc s own = true) : s.kind = .function := (blkOk_by h).kind
theorem comp_parts {N : List Str} {b : Bl} {s : Scope} {X : Cx} {Wx : WX} {vs : List Nat} (a : At X c N b k Wx) (h : blkC N b.sc s (vs.map fun i => (N.getD i Str.empty, i)) = true) : BlkOk X.N X.env.scope s (vs.map fun i => (N.getD i Str.empty, i)) ∧ (vs.map fun i => (N.getD i Str.empty, i)).map (·.2) = vs := by
  refine ⟨?_, by rw [List.map_map]; exact (List.map_congr_left fun i _ => rfl).trans (List.map_id vs)⟩
  have := blkOk_by h
  rw [a.hN, a.sc]; exact this
theorem sd_comp {elt it cond : E} {t : Tg} {vs : List Nat} (ie : Sd k c elt) (ii : Sd k c it) (ic : Sd k c cond) : Sd k c (.comp elt t it cond vs) := by
  refine sd_of (fun N => ⟨_, rfl⟩) ⟨_, _, rfl⟩ fun {X N b Wx} ax x h => ?_
  simp only [mt, mtV] at h
  split at h
  · rename_i pp
    simp only [Bool.and_eq_true, decide_eq_true_eq] at h
    obtain ⟨⟨⟨⟨⟨⟨⟨rfl, h1⟩, h2⟩, h3⟩, h4⟩, h5⟩, h6⟩, h7⟩ := h
    obtain ⟨bo, hv⟩ := comp_parts ax h3
    have i1 := ii.i ax _ _ h5
    have bx := fun s0 H C cl fp => ax.blk (blkC_kind h3) s0 H C cl fp
    have pl := pe_lc (pos := pp) ax.calm (by rw [ax.hN]; exact ax.nd) i1.1 bo (fun s0 H C cl fp => ((bx s0 H C cl fp).tg_all t).1 _ h4) (fun s0 H C cl fp => ic.t (bx s0 H C cl fp) _ h6) (fun s0 H C cl fp => (ie.v (bx s0 H C cl fp) _ h7).pe) (nice_fold i1.2)
    rw [hv] at pl
    exact sv_fr ax.hK rfl rfl rfl (PE.imp pl fun σ H Q q => lc_ok (fun i hi => by
      rw [List.all_eq_true] at h1
      simpa using h1 i hi) q)
  · cases h
theorem sd_all (m : E) : ∀ {k : Nat} {c : Ctx}, okE k c.toGd m → Sd k c m := by
  induction m with
  | var i => exact fun _ => sd_var i
  | cst d => exact fun _ => sd_cst d
  | glob x d => exact fun h => sd_glob h
  | neg a ia => exact fun h => sd_neg (ia h)
  | bin o a b ia ib => exact fun h => sd_bin (ia h.1) (ib h.2)
  | cmp o a b ia ib => exact fun h => sd_cmp (ia h.1) (ib h.2)
  | chain o p a b d ia ib id => exact fun h => sd_chain (ia h.1) (ib h.2.1) (id h.2.2)
  | not a ia => exact fun h => sd_not (ia h)
  | and a b ia ib => exact fun h => sd_and (ia h.1) (ib h.2)
  | or a b ia ib => exact fun h => sd_or (ia h.1) (ib h.2)
  | ite a b d ia ib id => exact fun h => sd_ite (ia h.1) (ib h.2.1) (id h.2.2)
  | tup a ia => exact fun h => sd_tup (ia h)
  | lst a ia => exact fun h => sd_lst (ia h)
  | cat a b ia ib => exact fun h => sd_cat (ia h.1) (ib h.2)
  | call x f a ia => exact fun h => sd_call h.1 (ia h.2)
  | callF x f a ia => exact fun h => sd_callF h.1 (ia h.2)
  | callB x f j a ia => exact fun h => sd_callB h.1 (ia h.2)
  | bi o a ia => exact fun h => sd_bi (ia h)
  | isi a T ia => exact fun h => sd_isi h.1 (ia h.2)
  | ix a b ia ib => exact fun h => sd_ix (ia h.1) (ib h.2)
  | sl a b d ia ib id => exact fun h => sd_sl (ia h.1) (ib h.2.1) (id h.2.2)
  | rev a ia => exact fun h => sd_rev (ia h)
  | comp elt t it cond vs ie ii ic => exact fun h => sd_comp (ie h.1) (ii h.2.1) (ic h.2.2)
  | ownNil i neg => exact fun _ => sd_ownNil i neg
  | ownLen i => exact fun _ => sd_ownLen i
  | ownIx i a ia => exact fun h => sd_ownIx (ia h)
  | pop0 i => exact fun _ => sd_pop0 i
  | popE i => exact fun _ => sd_popE i
  | ext x a ia => exact fun h => sd_ext h.1 (ia h.2)
  | lam x g a ia => exact fun {k c} h => sd_lam h.1 fun c' hc => ia (by rw [hc]; exact h.2)
  | nil => exact fun _ => sd_nil
  | cons a b ia ib => exact fun h => sd_cons (ia h.1) (ib h.2)
  | no => exact fun _ => sd_no
  | rng1 a ia => exact fun h => sd_rng1 (ia h)
  | rng2 a b ia ib => exact fun h => sd_rng2 (ia h.1) (ib h.2)
  | enum a ia => exact fun h => sd_enum (ia h)
  | zip a b ia ib => exact fun h => sd_zip (ia h.1) (ib h.2)
end

/-! ### swaps -/
section
variable {env : PySem.Env} {b : Bl}
theorem kind_of (hs : env.scope = b.sc) (x : Str) : env.kindOf x = b.sc.names.lookup x := by
  unfold Env.kindOf; rw [hs]
theorem blockKind_of (hs : env.scope = b.sc) (hk : b.sc.kind = .function) : env.blockKind = .function := by
  unfold Env.blockKind; rw [hs, hk]; rfl
theorem swaps_not {v : Expr} {t : Option Expr} {n : Nat} (h : noLc v = true) (hn : nice v = true) : swapsWith v t n env = pure false := by
  cases v <;> first | rfl | exact Bool.noConfusion (show false = true from h) | exact Bool.noConfusion (show false = true from hn)
theorem swaps_tg {v t : Expr} {n : Nat} (hn : nice v = true) (h : ∀ x p, t ≠ .Name x p) : swapsWith v (some t) n env = pure false := by
  cases v with
  | ListComp a g s p => cases t <;> first | rfl | exact (h _ _ rfl).elim
  | _ => first | rfl | exact Bool.noConfusion (show false = true from hn)
theorem swaps_name {v : Expr} {x : Str} {px : Pos} {n : Nat} (hs : env.scope = b.sc) (hk : b.sc.kind = .function) (hn : nice v = true) (h : noSw b x px v = true) : swapsWith v (some (.Name x px)) n env = pure false := by
  cases v with
  | ListComp a g s p =>
    show (pure (env.blockKind == .function && env.kindOf x == some .local && px.line == p.line && !(s.names.any fun (n, k) => n == x && (k == .local || k == .cell))) : Sem Bool) = pure false
    rw [blockKind_of hs hk, kind_of hs]
    unfold noSw at h
    rw [Bool.not_eq_true'] at h
    congr 1
    rw [← h]
    congr 1
    congr 1
    cases hl : b.sc.names.lookup x with
    | none => rfl
    | some kd => cases kd <;> rfl
  | _ => first | rfl | exact Bool.noConfusion (show false = true from hn)
theorem swaps_yes {v : Expr} {x : Str} {px : Pos} {n : Nat} (hs : env.scope = b.sc) (hk : b.sc.kind = .function) (h : noSw b x px v = false) : swapsWith v (some (.Name x px)) n env = pure true := by
  cases v with
  | ListComp a g s p =>
    show (pure (env.blockKind == .function && env.kindOf x == some .local && px.line == p.line && !(s.names.any fun (n, k) => n == x && (k == .local || k == .cell))) : Sem Bool) = pure true
    rw [blockKind_of hs hk, kind_of hs]
    unfold noSw at h
    rw [Bool.not_eq_false'] at h
    congr 1
    rw [← h]
    congr 1
    congr 1
    cases hl : b.sc.names.lookup x with
    | none => rfl
    | some kd => cases kd <;> rfl
  | _ => exact Bool.noConfusion (show true = false from h)
end
end DV
set_option Elab.async false
set_option linter.all false
set_option maxRecDepth 100000
set_option maxHeartbeats 4000000
/-! Whatever statements a small text stands for come to what it comes to. -/
namespace DV
open PySem PySem.Spec PyProof.Rows L2

/-! ### stores from the right -/
section
variable {env : PySem.Env} {b : Bl} {kt k2 : Nat} {pt pt2 px py pz : Pos} {x y z : Str} {v w u : Expr}
theorem tg_tup {N : List Str} {t : Tg} : ∀ {ts : List Expr}, mTgs N b t ts = true → True := fun _ => trivial
theorem no_par {tg v : Expr} (hs : env.scope = b.sc) (h : noPar b tg v = true) (ht : ∀ l p, tg ≠ .List l p) : swappedStores [tg] v env = pure none := by
  unfold swappedStores
  cases tg with
  | Tuple ts kt pt =>
    cases v with
    | Tuple vs k2 pt2 =>
      dsimp only
      split
      · rfl
      · rename_i h1
        split
        · rfl
        · split
          · rfl
          · rename_i h3
            by_cases hfold : vs.all (foldedForSure 8) = true
            · rw [if_pos hfold]
            exfalso
            simp only [Bool.or_eq_true, not_or, bne_iff_ne, ne_eq, Decidable.not_not] at h3
            unfold noPar at h
            rw [Bool.or_eq_true] at h
            replace h := h.resolve_left hfold
            simp only [Bool.or_eq_true, Bool.not_eq_true', Bool.or_eq_false_iff, decide_eq_false_iff_not] at h
            have hany : (ts.any fun t => !nameLoc b t) = true := by
              rcases h with h | h
              · exfalso
                apply h1
                simp [h.1, h.2]
              · exact h
            obtain ⟨t, ht, hn⟩ := List.any_eq_true.mp hany
            have hall := (List.filterMap_length_eq_length).mp h3.1
            have := hall t ht
            cases t with
            | Name i p =>
              dsimp only at this
              rw [kind_of hs] at this
              simp only [nameLoc, Bool.not_eq_true', decide_eq_false_iff_not] at hn
              split at this
              · rename_i hh
                simp only [Bool.and_eq_true, beq_iff_eq] at hh
                exact hn hh.1
              · cases this
            | _ => cases this
    | _ => rfl
  | List l p => exact (ht _ _ rfl).elim
  | _ => rfl
theorem par2_yes (hs : env.scope = b.sc) (hk : b.sc.kind = .function) (hx : b.sc.names.lookup x = some .local) (hy : b.sc.names.lookup y = some .local) (hl : (px.line == py.line) = true) (hxy : x ≠ y)
    (hv : noStar v = true) (hw : noStar w = true) (hf : (!(foldedForSure 8 v && foldedForSure 8 w)) = true) (hc : (!(constantsAlone 8 v && constantsAlone 8 w)) = true) :
    swappedStores [.Tuple [.Name x px, .Name y py] kt pt] (.Tuple [v, w] k2 pt2) env = pure (some [x, y]) := by
  unfold swappedStores
  have e1 : env.kindOf x = some .local := by rw [kind_of hs]; exact hx
  have e2 : env.kindOf y = some .local := by rw [kind_of hs]; exact hy
  have e3 : env.blockKind = .function := blockKind_of hs hk
  have hl' : py.line = px.line := (beq_iff_eq.mp hl).symm
  have hf : (foldedForSure 8 v && foldedForSure 8 w) = false := by rwa [Bool.not_eq_true'] at hf
  have hc : (constantsAlone 8 v && constantsAlone 8 w) = false := by rwa [Bool.not_eq_true'] at hc
  have hne : (y == x) = false := by rw [beq_eq_false_iff_ne]; exact fun z => hxy z.symm
  have hne' : (x == y) = false := by rw [beq_eq_false_iff_ne]; exact hxy
  have hpos1 : (Expr.Name x px).pos = px := rfl
  simp [e1, e2, e3, hl', hf, hc, hpos1, List.eraseDups, List.eraseDupsBy, List.eraseDupsBy.loop, hne, hne']
  intro h
  exfalso
  rcases h with h | h
  · cases v <;> first | exact Bool.noConfusion (show false = true from h) | exact Bool.noConfusion (show false = true from hv)
  · cases w <;> first | exact Bool.noConfusion (show false = true from h) | exact Bool.noConfusion (show false = true from hw)
theorem par3_yes (hs : env.scope = b.sc) (hk : b.sc.kind = .function) (hx : b.sc.names.lookup x = some .local) (hy : b.sc.names.lookup y = some .local) (hz : b.sc.names.lookup z = some .local) (hl : (px.line == py.line) = true) (hl2 : (px.line == pz.line) = true) (hxy : x ≠ y) (hxz : x ≠ z) (hyz : y ≠ z)
    (hv : noStar v = true) (hw : noStar w = true) (hu : noStar u = true) (hf : (!(foldedForSure 8 v && foldedForSure 8 w && foldedForSure 8 u)) = true) (hc : (!(constantsAlone 8 v && constantsAlone 8 w && constantsAlone 8 u)) = true) :
    swappedStores [.Tuple [.Name x px, .Name y py, .Name z pz] kt pt] (.Tuple [v, w, u] k2 pt2) env = pure (some [x, y, z]) := by
  unfold swappedStores
  have e1 : env.kindOf x = some .local := by rw [kind_of hs]; exact hx
  have e2 : env.kindOf y = some .local := by rw [kind_of hs]; exact hy
  have e4 : env.kindOf z = some .local := by rw [kind_of hs]; exact hz
  have e3 : env.blockKind = .function := blockKind_of hs hk
  have hl' : py.line = px.line := (beq_iff_eq.mp hl).symm
  have hl2' : pz.line = px.line := (beq_iff_eq.mp hl2).symm
  have hf : (foldedForSure 8 v && (foldedForSure 8 w && foldedForSure 8 u)) = false := by rw [← Bool.and_assoc]; rwa [Bool.not_eq_true'] at hf
  have hc : (constantsAlone 8 v && (constantsAlone 8 w && constantsAlone 8 u)) = false := by rw [← Bool.and_assoc]; rwa [Bool.not_eq_true'] at hc
  have n1 : (y == x) = false := by rw [beq_eq_false_iff_ne]; exact fun z => hxy z.symm
  have n1' : (x == y) = false := by rw [beq_eq_false_iff_ne]; exact hxy
  have n2 : (z == x) = false := by rw [beq_eq_false_iff_ne]; exact fun z => hxz z.symm
  have n2' : (x == z) = false := by rw [beq_eq_false_iff_ne]; exact hxz
  have n3 : (z == y) = false := by rw [beq_eq_false_iff_ne]; exact fun z => hyz z.symm
  have n3' : (y == z) = false := by rw [beq_eq_false_iff_ne]; exact hyz
  have hpos1 : (Expr.Name x px).pos = px := rfl
  simp [e1, e2, e3, e4, hl', hl2', hf, hc, hpos1, List.eraseDups, List.eraseDupsBy, List.eraseDupsBy.loop, n1, n1', n2, n2', n3, n3']
  intro h
  exfalso
  rcases h with h | h | h
  · cases v <;> first | exact Bool.noConfusion (show false = true from h) | exact Bool.noConfusion (show false = true from hv)
  · cases w <;> first | exact Bool.noConfusion (show false = true from h) | exact Bool.noConfusion (show false = true from hw)
  · cases u <;> first | exact Bool.noConfusion (show false = true from h) | exact Bool.noConfusion (show false = true from hu)
end
end DV
set_option Elab.async false
set_option linter.all false
set_option maxRecDepth 100000
set_option maxHeartbeats 4000000
/-! .. statements, all forms. -/
namespace DV
open PySem PySem.Spec PyProof.Rows L2

/-- an own exception class below ValueError, without its own __init__ -/
def ExOk (c : Gd) (x : Str) : Prop := ∃ C, c.mg x = some (.ref C) ∧ PySem.W.excIn c.K C [.type "ValueError", .type "Exception", .type "BaseException", .type "object"] "ValueError.__new__" = true ∧ PySem.W.keepIn c.K (.ref C) = true ∧ PySem.W.subIn c.K (.ref C) (.type "BaseException") = some true ∧ PySem.W.typeIn c.K (.ref C) = some (.type "type")
/-- such a block is as it says -/
def BmOk (k : Nat) (g : Gd) (x : Bm) : Prop := ∀ (c : Ctx) X N b Wx, c.toGd = g → At X c N b k Wx → ∀ l, x.m N b l = true → PSs X l (tS c Wx x.f)
def okS (k : Nat) (c : Gd) : S → Prop
  | .skip => True
  | .seq a b => okS k c a ∧ okS k c b
  | .set _ m => okE k c m
  | .setC _ _ m => okE k c m
  | .par2 _ _ _ _ a b => okE k c a ∧ okE k c b
  | .par3 _ _ _ _ _ _ a b d => okE k c a ∧ okE k c b ∧ okE k c d
  | .own _ _ m => okE k c m
  | .app _ m => okE k c m
  | .setIx _ key m => okE k c key ∧ okE k c m
  | .frz _ => True
  | .ex m => okE k c m
  | .ret m => okE k c m
  | .retF m => okE k c m
  | .retN => True
  | .retOwn _ => True
  | .ite t a b => okE k c t ∧ okS k c a ∧ okS k c b
  | .loop _ t b => okE k c t ∧ okS k c b
  | .each _ it b => okE k c it ∧ okS k c b
  | .raise x => ExOk c x
  | .brk => True
  | .blk x => BmOk k c x
section
variable {k : Nat} {c : Ctx}
theorem x_raise {X : Cx} {N : List Str} {b : Bl} {Wx : WX} (a : At X c N b k Wx) {x m : Str} {j : Nat} {p p2 p3 p4 : Pos} (h : ExOk c.toGd x) (hg : glB b x x = true) : PS X (.Raise (some (.Call (.Name x p) [.Constant (.str m) j p2] [] p3)) none p4) (tS c Wx fun _ => .err x) := by
  obtain ⟨C, h1, h2, h3, h4, h5⟩ := h
  obtain ⟨_, g2, g3, g4⟩ := a.gl hg
  have hK := a.hK
  refine PS.imp (L2N.ps_raise a.calm a.tk (L2N.pmk_own (C := C) PySem.F.excBase_ValueError (by rw [hK]; exact h2) (by rw [a.hmg]; exact h1) (by rw [hK]; exact h3) (raises_own (by rw [hK]; exact h4) (by rw [hK]; exact h5)) g2 g3)) fun E σ H ⟨G, e, ok, q⟩ => q C σ H h1 ok.fr
/-- a text in a place -/
structure Ss (k : Nat) (c : Ctx) (s : S) : Prop where
  one : atom s = true → ∀ {X N b Wx}, At X c N b k Wx → ∀ st, mS N b s [st] = true → PS X st (tS c Wx (evS s))
  all : ∀ {X N b Wx}, At X c N b k Wx → ∀ l, mS N b s l = true → PSs X l (tS c Wx (evS s))
theorem ss_of {s : S} (h1 : ∀ {N b l}, mS N b s l = true → ∃ st, l = [st]) (h : ∀ {X N b Wx}, At X c N b k Wx → ∀ st, mS N b s [st] = true → PS X st (tS c Wx (evS s))) : Ss k c s := by
  refine ⟨fun _ => h, fun {X N b Wx} a l hl => ?_⟩
  obtain ⟨st, rfl⟩ := h1 hl
  exact ss_one (h a st hl)
theorem kd_fr {X : Cx} {Wx : WX} {kd : Kd} {m : E} {x : Expr} (h : kdB kd m = true) (s : Sv X c Wx m x) : PE X x (tW c Wx kd.fr (ev m).v) := by
  cases kd with
  | val => exact s_val s.pe
  | own => exact s.fr h
theorem lc_loc {X : Cx} {N : List Str} {b : Bl} {Wx : WX} (a : At X c N b k Wx) {i : Nat} {x : Str} (h : lcB N b i x = true) : X.N.Nodup ∧ X.N[i]? = some x ∧ Loc X.env.scope x ∧ (X.fn x = true ∨ X.env.scope.names.lookup x = some .local) := by
  simp only [lcB, Bool.and_eq_true, Bool.or_eq_true, decide_eq_true_eq] at h
  obtain ⟨⟨h1, h2⟩, h3⟩ := h
  refine ⟨by rw [a.hN]; exact a.nd, by rw [a.hN]; exact h1, by rw [a.sc]; exact loc_of h2, ?_⟩
  rcases h3 with h3 | h3
  · exact .inl (a.fn x h3)
  · exact .inr (by rw [a.sc]; exact h3)
theorem mTg_notList {N : List Str} {b : Bl} {t : Tg} {e : Expr} (h : mTg N b t e = true) : ∀ l p, e ≠ .List l p := by
  intro l p z
  subst z
  cases t <;> simp [mTg] at h
theorem sole {t v : Expr} {n : Nat} {env : PySem.Env} {b : Bool} (h : swapsWith v (some t) n env = pure b) : swapsWithSole [t] v n env = pure b := h
theorem ss_set {t : Tg} {m : E} (hm : okE k c.toGd m) : Ss k c (.set t m) := by
  refine ss_of (fun {N b l} h => ?_) fun {X N b Wx} a st h => ?_
  · simp only [mS] at h; split at h
    · exact ⟨_, rfl⟩
    · cases h
  · simp only [mS] at h
    split at h
    · rename_i tg e p heq
      cases heq
      simp only [Bool.and_eq_true] at h
      obtain ⟨⟨⟨h1, h2⟩, h3⟩, h4⟩ := h
      have i1 := (sd_all m hm).v a _ h2
      refine x_set i1.pe ((a.tg_all t).1 _ h1) ?_ (no_par a.sc h3 (mTg_notList h1)) (by rw [assign_cons (noStar_tg h1)]; rfl)
      show swapsWith e (some tg) _ _ = _
      cases tg with
      | Name x px => exact swaps_name a.sc a.kind i1.nice h4
      | _ => exact swaps_tg i1.nice fun _ _ z => nomatch z
    · cases h
theorem ss_own {kd : Kd} {i : Nat} {m : E} (hm : okE k c.toGd m) : Ss k c (.own kd i m) := by
  refine ss_of (fun {N b l} h => ?_) fun {X N b Wx} a st h => ?_
  · simp only [mS] at h; split at h
    · exact ⟨_, rfl⟩
    · cases h
  · simp only [mS] at h
    split at h
    · rename_i x px e p heq
      cases heq
      simp only [Bool.and_eq_true] at h
      obtain ⟨⟨⟨h1, h2⟩, h3⟩, h4⟩ := h
      have i1 := (sd_all m hm).v a _ h4
      obtain ⟨l1, l2, l3, l4⟩ := lc_loc a h1
      exact x_own l1 l2 l3 l4 (kd_fr h2 i1) (swaps_name a.sc a.kind i1.nice h3)
    · cases h
theorem ss_setC {kd : Kd} {i : Nat} {m : E} (hm : okE k c.toGd m) : Ss k c (.setC kd i m) := by
  refine ss_of (fun {N b l} h => ?_) fun {X N b Wx} a st h => ?_
  · simp only [mS] at h; split at h
    · exact ⟨_, rfl⟩
    · cases h
  · simp only [mS] at h
    split at h
    · rename_i x px e p heq
      cases heq
      simp only [Bool.and_eq_true, decide_eq_true_eq, Bool.not_eq_true'] at h
      obtain ⟨⟨⟨⟨h1, h2⟩, h3⟩, h4⟩, h5⟩ := h
      obtain ⟨l1, l2, l3, l4⟩ := lc_loc a h1
      cases m with
      | comp elt t it cond vs =>
        have hsw := swaps_yes (n := p.line) a.sc a.kind h5
        simp only [mt, mtV] at h3
        split at h3
        · simp only [Bool.and_eq_true, decide_eq_true_eq] at h3
          obtain ⟨⟨⟨⟨⟨⟨⟨rfl, q1⟩, q2⟩, q3⟩, q4⟩, q5⟩, q6⟩, q7⟩ := h3
          obtain ⟨bo, hv⟩ := comp_parts a q3
          have ii := (sd_all it hm.2.1).i a _ _ q5
          have bx := fun s0 H C cl fp => a.blk (blkC_kind q3) s0 H C cl fp
          have pl := ps_setLc (py := px) (spos := p) a.calm l1 l2 (by rw [a.sc]; exact h2) hsw ii.1 bo (fun s0 H C cl fp => ((bx s0 H C cl fp).tg_all t).1 _ q4) (fun s0 H C cl fp => (sd_all cond hm.2.2).t (bx s0 H C cl fp) _ q6) (fun s0 H C cl fp => ((sd_all elt hm.1).v (bx s0 H C cl fp) _ q7).pe) (nice_fold ii.2)
          rw [hv] at pl
          refine PS.imp pl fun E σ H ⟨G, e, ok, q⟩ => ?_
          have qw : tW c Wx kd.fr (ev (.comp elt t it cond vs)).v σ H (fun v H1 => E.nx (σ.set i (some v)) H1) := by
            refine ⟨G, e, ok, (PostS.soW (kk := kd.fr) q).mono fun v H1 ⟨G1, d1, e1, _, st1, ok1, r1, p1⟩ => ?_⟩
            obtain ⟨s, qs, p2⟩ := PostS.so0 p1 fun m => slot_ne
            unfold En.set1 at p2
            split at p2
            · rename_i ql
              obtain ⟨G2, ok2, st2, _⟩ := ok1.setK ql r1 qs
              exact p2 _ H1 G2 st2 ok2
            · exact p2.elim
          refine lc_ok (fun i hi => by
            rw [List.all_eq_true] at q1
            simpa using q1 i hi) ?_
          cases kd with
          | val => exact unF (valF qw)
          | own => exact qw
        · cases h3
      | _ => exact Bool.noConfusion (show false = true from h4)
    · cases h
theorem ne_of_ix {N : List Str} (hN : N.Nodup) {i j : Nat} {x y : Str} (h1 : N[i]? = some x) (h2 : N[j]? = some y) (h : i ≠ j) : x ≠ y := fun z => by
  subst z
  exact h ((List.getElem?_inj (List.getElem?_eq_some_iff.mp h1).1 hN).mp (h1.trans h2.symm))
theorem ss_par2 {k1 k2 : Kd} {i j : Nat} {m n : E} (hm : okE k c.toGd m) (hn : okE k c.toGd n) : Ss k c (.par2 k1 k2 i j m n) := by
  refine ss_of (fun {N b l} h => ?_) fun {X N b Wx} a st h => ?_
  · simp only [mS] at h; split at h
    · exact ⟨_, rfl⟩
    · cases h
  · simp only [mS] at h
    split at h
    · rename_i heq
      cases heq
      simp only [Bool.and_eq_true, decide_eq_true_eq] at h
      obtain ⟨⟨⟨⟨⟨⟨⟨⟨⟨⟨⟨h1, h2⟩, h3⟩, h4⟩, h5⟩, h6⟩, h7⟩, h8⟩, h9⟩, h10⟩, h11⟩, h12⟩ := h
      have i1 := (sd_all m hm).v a _ h11
      have i2 := (sd_all n hn).v a _ h12
      obtain ⟨l1, l2, l3, l4⟩ := lc_loc a h1
      obtain ⟨k1, k2, k3, k4⟩ := lc_loc a h2
      exact x_par2 a.calm l1 l2 k2 h5 (by rw [a.sc]; exact h3) (by rw [a.sc]; exact h4) (kd_fr h9 i1) (kd_fr h10 i2) (nice_star i1.nice) (nice_star i2.nice)
        (par2_yes a.sc a.kind h3 h4 h6 (ne_of_ix l1 l2 k2 h5) (nice_star i1.nice) (nice_star i2.nice) h7 h8) rfl
    · cases h
theorem ss_par3 {k1 k2 k3 : Kd} {i j n : Nat} {m q r : E} (hm : okE k c.toGd m) (hq : okE k c.toGd q) (hr : okE k c.toGd r) : Ss k c (.par3 k1 k2 k3 i j n m q r) := by
  refine ss_of (fun {N b l} h => ?_) fun {X N b Wx} a st h => ?_
  · simp only [mS] at h; split at h
    · exact ⟨_, rfl⟩
    · cases h
  · simp only [mS] at h
    split at h
    · rename_i heq
      cases heq
      simp only [Bool.and_eq_true, decide_eq_true_eq] at h
      obtain ⟨⟨⟨⟨⟨⟨⟨⟨⟨⟨⟨⟨⟨⟨⟨⟨⟨⟨h1, h2⟩, h3⟩, h4⟩, h5⟩, h6⟩, h7⟩, h8⟩, h9⟩, h10⟩, h11⟩, h12⟩, h13⟩, h14⟩, h15⟩, h16⟩, h17⟩, h18⟩, h19⟩ := h
      have i1 := (sd_all m hm).v a _ h17
      have i2 := (sd_all q hq).v a _ h18
      have i3 := (sd_all r hr).v a _ h19
      obtain ⟨l1, l2, l3, l4⟩ := lc_loc a h1
      obtain ⟨k1, k2, k3, k4⟩ := lc_loc a h2
      obtain ⟨n1, n2, n3, n4⟩ := lc_loc a h3
      exact x_par3 a.calm l1 l2 k2 n2 h7 h8 h9 (by rw [a.sc]; exact h4) (by rw [a.sc]; exact h5) (by rw [a.sc]; exact h6) (kd_fr h14 i1) (kd_fr h15 i2) (kd_fr h16 i3) (nice_star i1.nice) (nice_star i2.nice) (nice_star i3.nice)
        (par3_yes a.sc a.kind h4 h5 h6 h10 h11 (ne_of_ix l1 l2 k2 h7) (ne_of_ix l1 l2 n2 h8) (ne_of_ix l1 k2 n2 h9) (nice_star i1.nice) (nice_star i2.nice) (nice_star i3.nice) h12 h13) rfl
    · cases h
theorem ss_app {i : Nat} {m : E} (hm : okE k c.toGd m) : Ss k c (.app i m) := by
  refine ss_of (fun {N b l} h => ?_) fun {X N b Wx} a st h => ?_
  · simp only [mS] at h; split at h
    · exact ⟨_, rfl⟩
    · cases h
  · simp only [mS] at h
    split at h
    · rename_i heq
      cases heq
      simp only [Bool.and_eq_true, decide_eq_true_eq] at h
      obtain ⟨⟨⟨h1, h2⟩, h3⟩, h4⟩ := h
      subst h1
      have i1 := (sd_all m hm).v a _ h4
      obtain ⟨n1, n2, n3, n4⟩ := a.nm h2
      exact x_app (pe_var n1 n2 n3 n4) i1.pe (nice_star i1.nice) h3 rfl
    · cases h
theorem ss_setIx {i : Nat} {key m : E} (hk : okE k c.toGd key) (hm : okE k c.toGd m) : Ss k c (.setIx i key m) := by
  refine ss_of (fun {N b l} h => ?_) fun {X N b Wx} a st h => ?_
  · simp only [mS] at h; split at h
    · exact ⟨_, rfl⟩
    · cases h
  · simp only [mS] at h
    split at h
    · rename_i heq
      cases heq
      simp only [Bool.and_eq_true] at h
      obtain ⟨⟨⟨⟨h1, h2⟩, h3⟩, h4⟩, h5⟩ := h
      have i1 := (sd_all m hm).v a _ h5
      have i2 := (sd_all key hk).v a _ h3
      obtain ⟨n1, n2, n3, n4⟩ := a.nm h2
      exact x_setIx (pe_var n1 n2 n3 n4) i2.pe i1.pe h1 (sole (swaps_tg i1.nice fun _ _ z => by cases z))
    · cases h
theorem ss_ex {m : E} (hm : okE k c.toGd m) : Ss k c (.ex m) := by
  refine ss_of (fun {N b l} h => ?_) fun {X N b Wx} a st h => ?_
  · simp only [mS] at h; split at h
    · exact ⟨_, rfl⟩
    · cases h
  · simp only [mS] at h
    split at h
    · rename_i heq
      cases heq
      simp only [Bool.and_eq_true] at h
      have i1 := (sd_all m hm).v a _ h.2
      exact x_ex i1.pe (swaps_not h.1 i1.nice)
    · cases h
theorem ss_ret {m : E} (hm : okE k c.toGd m) : Ss k c (.ret m) := by
  refine ss_of (fun {N b l} h => ?_) fun {X N b Wx} a st h => ?_
  · simp only [mS] at h; split at h
    · exact ⟨_, rfl⟩
    · cases h
  · simp only [mS] at h
    split at h
    · rename_i heq
      cases heq
      exact x_ret ((sd_all m hm).v a _ h).pe
    · cases h
theorem ss_retF {m : E} (hm : okE k c.toGd m) : Ss k c (.retF m) := by
  refine ss_of (fun {N b l} h => ?_) fun {X N b Wx} a st h => ?_
  · simp only [mS] at h; split at h
    · exact ⟨_, rfl⟩
    · cases h
  · simp only [mS] at h
    split at h
    · rename_i heq
      cases heq
      simp only [Bool.and_eq_true] at h
      exact x_retF (((sd_all m hm).v a _ h.2).fr h.1)
    · cases h
theorem ss_retN : Ss k c .retN := by
  refine ss_of (fun {N b l} h => ?_) fun {X N b Wx} a st h => ?_
  · simp only [mS] at h; split at h
    · exact ⟨_, rfl⟩
    · cases h
  · simp only [mS] at h
    split at h
    · rename_i heq
      cases heq
      exact x_retN
    · cases h
theorem ss_retOwn {i : Nat} : Ss k c (.retOwn i) := by
  refine ss_of (fun {N b l} h => ?_) fun {X N b Wx} a st h => ?_
  · simp only [mS] at h; split at h
    · exact ⟨_, rfl⟩
    · cases h
  · simp only [mS] at h
    split at h
    · rename_i heq
      cases heq
      obtain ⟨n1, n2, n3, n4⟩ := a.nm h
      exact x_retOwn (pe_var n1 n2 n3 n4)
    · cases h
theorem ss_brk : Ss k c .brk := by
  refine ss_of (fun {N b l} h => ?_) fun {X N b Wx} a st h => ?_
  · simp only [mS] at h; split at h
    · exact ⟨_, rfl⟩
    · cases h
  · simp only [mS] at h
    split at h
    · rename_i heq
      cases heq
      exact x_brk
    · cases h
theorem ss_raise {x : Str} (hx : ExOk c.toGd x) : Ss k c (.raise x) := by
  refine ss_of (fun {N b l} h => ?_) fun {X N b Wx} a st h => ?_
  · simp only [mS] at h; split at h
    · exact ⟨_, rfl⟩
    · cases h
  · simp only [mS] at h
    split at h
    · rename_i heq
      cases heq
      obtain ⟨e, _⟩ := a.gl h
      subst e
      exact x_raise a hx h
    · cases h
theorem ss_all (s : S) : okS k c.toGd s → Ss k c s := by
  induction s with
  | skip => exact fun _ => ⟨fun h => Bool.noConfusion (show false = true from h), fun {X N b Wx} a l h => by
      cases l with
      | nil => exact ss_nil
      | cons _ _ => exact Bool.noConfusion (show false = true from h)⟩
  | blk x => exact fun hx => ⟨fun h => Bool.noConfusion (show false = true from h), fun {X N b Wx} a l h => hx c X N b Wx rfl a l h⟩
  | frz i => exact fun _ => ⟨fun h => Bool.noConfusion (show false = true from h), fun {X N b Wx} a l h => by
      cases l with
      | nil => exact PSs.imp (ss_frz (i := i) (c := c) (Wx := Wx) ss_nil) fun E σ H ⟨G, e, ok, q⟩ => ⟨G, e, ok, by
          unfold seqS
          have q : PostS c Wx G H ((e.getOwn i).so fun ds => .next (e.put i (.val (.list ds)))) E := q
          dsimp only
          cases qo : (e.getOwn i) with
          | ok ds => rw [qo] at q; exact q
          | err m => exact (own_ne qo).elim
          | bad => rw [qo] at q; exact q.elim⟩
      | cons _ _ => exact Bool.noConfusion (show false = true from h)⟩
  | seq a r ia ir =>
    intro hok
    refine ⟨fun h => Bool.noConfusion (show false = true from h), fun {X N b Wx} ax l h => ?_⟩
    have ir := ir hok.2
    have ia := ia hok.1
    have gen : ∀ l, (match l with | st :: l => atom a && mS N b a [st] && mS N b r l | [] => false) = true → PSs X l (tS c Wx (evS (.seq a r))) := fun l h => by
      cases l with
      | nil => exact Bool.noConfusion (show false = true from h)
      | cons st l =>
        simp only [Bool.and_eq_true] at h
        exact ss_cons (ia.one h.1.1 ax st h.1.2) (ir.all ax l h.2)
    cases a with
    | frz i => exact ss_frz (ir.all ax l h)
    | _ => simp only [mS] at h; exact gen l h
  | set t m => exact fun h => ss_set h
  | setC kd i m => exact fun h => ss_setC h
  | par2 k1 k2 i j a b => exact fun h => ss_par2 h.1 h.2
  | par3 k1 k2 k3 i j n a b d => exact fun h => ss_par3 h.1 h.2.1 h.2.2
  | own kd i m => exact fun h => ss_own h
  | app i m => exact fun h => ss_app h
  | setIx i key m => exact fun h => ss_setIx h.1 h.2
  | ex m => exact fun h => ss_ex h
  | ret m => exact fun h => ss_ret h
  | retF m => exact fun h => ss_retF h
  | retN => exact fun _ => ss_retN
  | retOwn i => exact fun _ => ss_retOwn
  | ite t a b ia ib =>
    intro hok
    refine ss_of (fun {N b l} h => ?_) fun {X N b Wx} ax st h => ?_
    · simp only [mS] at h; split at h
      · exact ⟨_, rfl⟩
      · cases h
    · simp only [mS] at h
      split at h
      · rename_i heq
        cases heq
        simp only [Bool.and_eq_true] at h
        exact x_ite ((sd_all t hok.1).v ax _ h.1.1).pt ((ia hok.2.1).all ax _ h.1.2) ((ib hok.2.2).all ax _ h.2)
      · cases h
  | loop n t b ib =>
    intro hok
    refine ss_of (fun {N b l} h => ?_) fun {X N b Wx} ax st h => ?_
    · simp only [mS] at h; split at h
      · exact ⟨_, rfl⟩
      · cases h
    · simp only [mS] at h
      split at h
      · rename_i heq
        cases heq
        simp only [Bool.and_eq_true] at h
        exact x_loop ((sd_all t hok.1).v ax.nox _ h.1).pt ((ib hok.2).all ax.nox _ h.2)
      · cases h
  | each t it b ib =>
    intro hok
    refine ss_of (fun {N b l} h => ?_) fun {X N b Wx} ax st h => ?_
    · simp only [mS] at h; split at h
      · exact ⟨_, rfl⟩
      · cases h
    · simp only [mS] at h
      split at h
      · rename_i heq
        cases heq
        simp only [Bool.and_eq_true] at h
        have ii := (sd_all it hok.1).i ax.nox _ _ h.1.2
        exact x_each ax.calm ii.1 ((ax.nox.tg_all t).1 _ h.1.1) ((ib hok.2).all ax.nox _ h.2) (nice_fold ii.2)
      · cases h
  | raise x => exact fun h => ss_raise h
  | brk => exact fun _ => ss_brk
end
end DV
set_option Elab.async false
set_option linter.all false
set_option maxRecDepth 100000
set_option maxHeartbeats 4000000
/-! Defs by what their small texts come to. -/
namespace DV
open PySem PySem.Spec PyProof.Rows L2

theorem CallOk0.mono {P : Program} {w : World} {K : PySem.W.Frag} {mg : Str → Option Value} {base : Heap} {j k : Nat} {x : Str} {sp : Sp} (h : CallOk0 P w K mg base j x sp) (hk : j ≤ k) : CallOk0 P w K mg base k x sp := by
  obtain ⟨a, fd, ps, F, r⟩ := h
  exact ⟨a, fd, ps, F.mono hk, r⟩
theorem Reps.map {W : Wd} {H : Hp} : ∀ {vs : List V} {ds : List D}, Reps W H vs ds → ∀ i : Nat, i < ds.length → ∃ v d, vs[i]? = some v ∧ ds[i]? = some d ∧ Rep W H v d := fun r i hi => by
  obtain ⟨v, h1, h2⟩ := r.get (List.getElem?_eq_getElem hi)
  exact ⟨v, _, h1, List.getElem?_eq_getElem hi, h2⟩
theorem start_get {N : List Str} {vs : List V} (i : Nat) (hl : vs.length ≤ N.length) : (L2.start N vs)[i]? = if i < vs.length then (vs[i]?).map some else if i < N.length then some none else none := by
  unfold L2.start
  by_cases h : i < vs.length
  · rw [if_pos h, List.getElem?_append_left (by simpa using h), List.getElem?_map]
  · rw [if_neg h, List.getElem?_append_right (by simpa using Nat.le_of_not_lt h), List.length_map, List.getElem?_replicate]
    by_cases h2 : i < N.length
    · rw [if_pos h2, if_pos (by omega)]
    · rw [if_neg h2, if_neg (by omega)]
theorem start_len {N : List Str} {vs : List V} (hl : vs.length ≤ N.length) : (L2.start N vs).length = N.length := by
  unfold L2.start; simp; omega
/-- the state at a def's entry -/
theorem entry {P : Program} {w : World} {base : Heap} {T : List (Addr × Str)} {K : PySem.W.Frag} {mg : Str → Option Value} {W : Wd} {H : Hp} {N : List Str} {vs : List V} {ds : List D} (n : Nat) (hn : n = N.length) (hK : W.K = K) (ht : LamX.Tabs T H) (hz : ZL W.Z H) (r : Reps W H vs ds) (hl : ds.length ≤ n) (cl : Nat → Addr) :
    Ok ⟨⟨P, w, base, K, mg, T⟩, W.Z, H, fun _ => False, cl, []⟩ ⟨List.replicate n none, W.O, []⟩ (L2.start N vs) H ⟨ds.map Slot.val ++ List.replicate (n - ds.length) .no, []⟩ := by
  subst hn
  have hv : vs.length ≤ N.length := by rw [r.length]; exact hl
  have zz : ∀ b, Zm ⟨⟨P, w, base, K, mg, T⟩, W.Z, H, fun _ => False, cl, []⟩ ⟨List.replicate N.length none, W.O, []⟩ b → W.Z b := fun b z => by
    rcases z with z | z | ⟨xs, z⟩
    · exact z
    · cases (List.eq_of_mem_replicate z)
    · cases z
  refine ⟨by simp [start_len hv]; omega, by simp [start_len hv], fun i s q => ?_, fun i j a h => ?_, ⟨fun b o h _ _ => h, ht⟩, fun b z => hz b (zz b z), fun i a h => ?_, fun i ds a _ h => ?_, fun p hp => (by cases hp), fun a h => (by cases h), fun n k fs q => (by simp at q)⟩
  · by_cases h : i < ds.length
    · rw [List.getElem?_append_left (by simpa using h), List.getElem?_map] at q
      obtain ⟨v, d, h1, h2, h3⟩ := r.map i h
      rw [h2] at q; cases q
      refine ⟨none, some v, ?_, ?_, rfl, v, rfl, ?_⟩
      · rw [List.getElem?_replicate, if_pos (by omega)]
      · rw [start_get i hv, if_pos (by rw [r.length]; exact h), h1]; rfl
      · exact Rep.keep (W := W) (W' := Ctx.wd ⟨⟨P, w, base, K, mg, T⟩, W.Z, H, fun _ => False, cl, []⟩ ⟨List.replicate N.length none, W.O, []⟩) hK.symm (fun b z => .inl (zz b z)) (fun _ _ h => h) hz (.refl _ _) h3
    · rw [List.getElem?_append_right (by simpa using Nat.le_of_not_lt h), List.length_map, List.getElem?_replicate] at q
      split at q
      · rename_i h2
        cases q
        exact ⟨none, none, by rw [List.getElem?_replicate, if_pos (by omega)], by rw [start_get i hv, if_neg (by rw [r.length]; exact h), if_pos (by omega)], rfl⟩
      · cases q
  · rw [List.getElem?_replicate] at h; split at h <;> cases h
  · rw [List.getElem?_replicate] at h; split at h <;> cases h
  · rw [List.getElem?_replicate] at h; split at h <;> cases h

section
variable {lm : Bool} {T : List (Addr × Str)} {P : Program} {w : World} {K : PySem.W.Frag} {mg : Str → Option Value} {base : Heap} {x qual : Str} {params : Arguments} {body : List Stmt} {scope : Scope} {f : Addr} {fd : FuncData}
/-- a def by its body, its code object told of -/
theorem fund_ok {CX : CXT} {N ps : List Str} {k : Nat} {sp : Sp} (F : FunD K x qual params body scope [] [] f fd) (S : FnScope N ps scope) (len : ∀ vs H Q E, sp vs H Q E → vs.length = ps.length)
    (h : ∀ (A : Around) (outer : List Env) (s : Shared) (H : Hp) (vs : List V) (Q : VK) (E : XK), Room k (A.deeper (envOfC qual scope s.heap.objs.size f fd.code)) → sp vs H Q E →
      ∃ t, PSs (cxOf CX P w K mg base N qual scope f fd.code A outer s H E) body t ∧ t { nx := fun _ H' => Q .non H', rt := Q } (L2.start N vs) H) : FnOk P w K mg base CX (k + 1) f fd ps sp := by
  obtain ⟨oc, od, dV, kV, doc, pm, an, cdv, ct, osl, rfl, lk, hcd, _, _⟩ := F.ex
  exact fn_of lk hcd S len fun A outer s H vs Q E hr hsp => h A outer s H vs Q E hr hsp
/-- what is known of a def, by its text alone -/
def bodyB (lm : Bool) (N : List Str) (scope : Scope) (body : List Stmt) (g : Fn) : Bool :=
  mS N ⟨scope, none, lm⟩ g.body body && decide (g.n = N.length) && decide (g.ps.length ≤ N.length) && (N.all fun x => !(x == ("__debug__" : Str)) && !(x == ("__classdict__" : Str)))
structure Bd (lm : Bool) (N : List Str) (scope : Scope) (body : List Stmt) (g : Fn) : Prop where
  m : mS N ⟨scope, none, lm⟩ g.body body = true
  n : g.n = N.length
  l : g.ps.length ≤ N.length
  db : ∀ x ∈ N, (x == ("__debug__" : Str)) = false ∧ (x == ("__classdict__" : Str)) = false
theorem bd_of {N : List Str} {scope : Scope} {body : List Stmt} {lm : Bool} {g : Fn} (h : bodyB lm N scope body g = true) : Bd lm N scope body g := by
  unfold bodyB at h
  simp only [Bool.and_eq_true, decide_eq_true_eq, List.all_eq_true, Bool.not_eq_true'] at h
  exact ⟨h.1.1.1, h.1.1.2, h.1.2, h.2⟩
theorem lam_at {CX : CXT} {N : List Str} {c : Ctx} {A : Around} {outer : List Env} {s : Shared} {H : Hp} {E : XK} (h : LamI base mg T fd.code (qual ++ ".<locals>.")) (hT : T = c.T) :
    LamI (cxOf CX P w K mg base N qual scope f fd.code A outer s H E).base (cxOf CX P w K mg base N qual scope f fd.code A outer s H E).mg c.T (cxOf CX P w K mg base N qual scope f fd.code A outer s H E).env.code (cxOf CX P w K mg base N qual scope f fd.code A outer s H E).env.qual := by
  subst hT
  exact h
theorem ax_cx {N : List Str} {k : Nat} {ps : List Str} {c : Ctx} {A : Around} {outer : List Env} {s : Shared} {H : Hp} {E : XK} (S : FnScope N ps scope) (hdb : ∀ x ∈ N, (x == ("__debug__" : Str)) = false ∧ (x == ("__classdict__" : Str)) = false) (hK : K = c.K) (hmg : mg = c.mg) (hP : P = c.prog) (hw : w = c.w) (hB : base = c.base)
    (hT : T = c.T) (hr : Room k (A.deeper (envOfC qual scope s.heap.objs.size f fd.code))) (hfree : ∀ x ∈ builtinNames, mg x = none) (hl : lm = true → LamI base mg T fd.code (qual ++ ".<locals>.")) : At (cxOf (L2N.CX P w) P w K mg base N qual scope f fd.code A outer s H E) c N ⟨scope, none, lm⟩ k (fun cls d _ H => E cls d H) :=
  ⟨rfl, S.nd, hdb, rfl, S.kind, fun _ _ => rfl, hK, hmg, hP, hw, hB, rfl, hr, L2N.takes_of rfl rfl rfl rfl, hfree, fun z => lam_at (hl z) hT⟩
theorem dat_back {c : Ctx} {W : Wd} {G : Gh} {H : Hp} {v : V} {d : D} (hz : ZL (Zm c G) H) (hK : W.K = c.K) (hO : W.O = G.O) (hZ : ∀ a, W.Z a → Zm c G a) (r : Rep (c.wd G) H v d) : Rep W H v d :=
  Rep.keep (W := c.wd G) (W' := W) hK (fun a z => .inl (hZ a z)) (fun n a h => by rw [hO]; exact h) hz (.refl _ _) r
theorem dats_back {c : Ctx} {W : Wd} {G : Gh} {H : Hp} {v : List V} {d : List D} (hz : ZL (Zm c G) H) (hK : W.K = c.K) (hO : W.O = G.O) (hZ : ∀ a, W.Z a → Zm c G a) (r : Reps (c.wd G) H v d) : Reps W H v d :=
  Reps.keep (W := c.wd G) (W' := W) hK (fun a z => .inl (hZ a z)) (fun n a h => by rw [hO]; exact h) hz (.refl _ _) r
theorem ext_fr {H H' : Hp} {Z : Addr → Prop} {cl : Nat → Addr} (h : Fr ⟨⟨P, w, base, K, mg, T⟩, Z, H, fun _ => False, cl, []⟩ H') : Ext H H' := fun b o q n => h.1 b o q n fun z => z
/-- a def whose value is data -/
theorem fn_ok {N : List Str} {k : Nat} {g : Fn} (F : FunD K x qual params body scope [] [] f fd) (S : FnScope N g.ps scope) (hb : Bd lm N scope body g) (hok : okS k ⟨P, w, base, K, mg, T⟩ g.body) (hfree : ∀ x ∈ builtinNames, mg x = none)
    (hl : lm = true → LamI base mg T fd.code (qual ++ ".<locals>.")) : FnOk P w K mg base (L2N.CX P w) (k + 1) f fd g.ps (spD K mg T g.run) := by
  refine fund_ok F S (fun vs H Q E h => ?_) (fun A outer s H vs R E hr h => ?_)
  · obtain ⟨W, ds, hK, ht, hz, r, h⟩ := h
    rw [r.length]
    unfold Fn.run at h
    split at h
    · rename_i d heq
      split at heq
      · assumption
      · cases heq
    · rename_i d heq
      split at heq
      · assumption
      · cases heq
    · exact h.elim
  · obtain ⟨W, ds, hK, ht, hz, r, h⟩ := h
    let c : Ctx := ⟨⟨P, w, base, K, mg, T⟩, W.Z, H, fun _ => False, fun _ => 0, []⟩
    have hlen : ds.length = g.ps.length := by
      by_cases hl : ds.length = g.ps.length
      · exact hl
      · unfold Fn.run at h
        rw [if_neg hl] at h; exact h.elim
    unfold Fn.run at h
    rw [if_pos hlen] at h
    have ok : Ok c ⟨List.replicate g.n none, W.O, []⟩ (L2.start N vs) H (g.en ds) := entry g.n hb.n hK ht hz r (by rw [hlen, hb.n]; exact hb.l) _
    have ax : At (cxOf (L2N.CX P w) P w K mg base N qual scope f fd.code A outer s H E) c N ⟨scope, none, lm⟩ k (fun cls d _ H => E cls d H) := ax_cx S hb.db rfl rfl rfl rfl rfl rfl hr hfree hl
    refine ⟨_, (ss_all g.body hok).all ax body hb.m, _, _, ok, ?_⟩
    have zW : ∀ (G : Gh) a, W.Z a → Zm c G a := fun G a z => .inl z
    cases q : evS g.body (g.en ds) with
    | next e =>
      rw [q] at h
      exact fun σ' H' G' st ok' => h .non H' (ext_fr ok'.fr) ok'.fr.2 .non
    | ret d e =>
      rw [q] at h
      exact fun σ' v H' G' st ok' rr => h v H' (ext_fr ok'.fr) ok'.fr.2 (dat_back ok'.zl hK st.O.symm (zW _) rr)
    | retf ys e =>
      rw [q] at h
      intro σ' v H' G0 G' st ok' gv
      obtain ⟨a, us, es, gx, rfl, ed, rr, nw, ne⟩ := gv
      cases ed
      exact h (.ref a) H' (ext_fr ok'.fr) ok'.fr.2 (.lst (fun z => nw.z z) (ok'.pin (a, us) (by rw [gx]; exact List.mem_cons_self)).1 (dats_back ok'.zl hK st.O.symm (zW _) rr))
    | reto i e =>
      rw [q] at h
      intro σ' v H' G' st ok' hv
      cases qo : e.getOwn i with
      | err m => exact (own_ne qo).elim
      | bad => dsimp only at h; rw [qo] at h; exact h.elim
      | ok ys =>
        dsimp only at h
        rw [qo] at h
        obtain ⟨a, us, q1, q2, q3, q4, q5⟩ := own_get ok' qo
        rw [q3] at hv; cases hv
        exact h (.ref a) H' (ext_fr ok'.fr) ok'.fr.2 (.lst (fun z => ok'.mine i ys a q1 q2 z) q4 (dats_back ok'.zl hK st.O.symm (zW _) q5))
    | err m =>
      rw [q] at h
      exact fun C σ' H' hm fr => h C H' hm (ext_fr fr) fr.2
    | brk e => rw [q] at h; exact h.elim
    | bad => rw [q] at h; exact h.elim
/-- a def that changes the list that it gets first -/
theorem entryB {W : Wd} {H : Hp} {N : List Str} {a : Addr} {xs ws : List V} {bg ds : List D} (n : Nat) (hn : n = N.length) (hK : W.K = K) (ht : LamX.Tabs T H) (hz : ZL W.Z H) (hza : W.Z a) (ha : H a = some (.lst xs)) (rb : Reps W H xs bg) (r : Reps W H ws ds) (hl : ds.length + 1 ≤ n) (cl : Nat → Addr) :
    Ok ⟨⟨P, w, base, K, mg, T⟩, fun b => W.Z b ∧ b ≠ a, H, fun b => b = a, cl, [(0, a)]⟩ ⟨some a :: List.replicate (n - 1) none, W.O, []⟩ (L2.start N (.ref a :: ws)) H ⟨.bag bg :: (ds.map Slot.val ++ List.replicate (n - (ds.length + 1)) .no), []⟩ := by
  subst hn
  have hv : (V.ref a :: ws).length ≤ N.length := by rw [List.length_cons, r.length]; exact hl
  have zz : ∀ b, Zm ⟨⟨P, w, base, K, mg, T⟩, fun b => W.Z b ∧ b ≠ a, H, fun b => b = a, cl, [(0, a)]⟩ ⟨some a :: List.replicate (N.length - 1) none, W.O, []⟩ b → W.Z b := fun b z => by
    rcases z with z | z | ⟨xs, z⟩
    · exact z.1
    · rcases List.mem_cons.mp z with z | z
      · cases z; exact hza
      · cases (List.eq_of_mem_replicate z)
    · cases z
  have rk : ∀ {v : V} {d : D}, Rep W H v d → Rep (Ctx.wd ⟨⟨P, w, base, K, mg, T⟩, fun b => W.Z b ∧ b ≠ a, H, fun b => b = a, cl, [(0, a)]⟩ ⟨some a :: List.replicate (N.length - 1) none, W.O, []⟩) H v d := fun r =>
    Rep.keep (W := W) (W' := Ctx.wd ⟨⟨P, w, base, K, mg, T⟩, fun b => W.Z b ∧ b ≠ a, H, fun b => b = a, cl, [(0, a)]⟩ ⟨some a :: List.replicate (N.length - 1) none, W.O, []⟩) hK.symm (fun b z => .inl (zz b z)) (fun _ _ h => h) hz (.refl _ _) r
  have rks : ∀ {v : List V} {d : List D}, Reps W H v d → Reps (Ctx.wd ⟨⟨P, w, base, K, mg, T⟩, fun b => W.Z b ∧ b ≠ a, H, fun b => b = a, cl, [(0, a)]⟩ ⟨some a :: List.replicate (N.length - 1) none, W.O, []⟩) H v d := fun r =>
    Reps.keep (W := W) (W' := Ctx.wd ⟨⟨P, w, base, K, mg, T⟩, fun b => W.Z b ∧ b ≠ a, H, fun b => b = a, cl, [(0, a)]⟩ ⟨some a :: List.replicate (N.length - 1) none, W.O, []⟩) hK.symm (fun b z => .inl (zz b z)) (fun _ _ h => h) hz (.refl _ _) r
  have hM : ∀ (i : Nat) b, (some a :: List.replicate (N.length - 1) none : List (Option Addr))[i]? = some (some b) → i = 0 ∧ b = a := fun i b h => by
    cases i with
    | zero => simp at h; exact ⟨rfl, h.symm⟩
    | succ i =>
      rw [List.getElem?_cons_succ, List.getElem?_replicate] at h
      split at h <;> cases h
  refine ⟨by simp [start_len hv]; omega, by simp [start_len hv]; omega, fun i s q => ?_, fun i j b h1 h2 => by rw [(hM i b h1).1, (hM j b h2).1], ⟨fun b o h _ _ => h, ht⟩, fun b z => hz b (zz b z), fun i b h => .inl (hM i b h).2, fun i es b q h => ?_, fun p hp => (by cases hp), fun b h => ?_, fun n k fs q => (by simp at q)⟩
  · cases i with
    | zero =>
      simp at q
      subst q
      exact ⟨some a, some (.ref a), rfl, by rw [start_get 0 hv]; rfl, a, xs, rfl, rfl, ha, rks rb⟩
    | succ i =>
      rw [List.getElem?_cons_succ] at q
      by_cases h : i < ds.length
      · rw [List.getElem?_append_left (by simpa using h), List.getElem?_map] at q
        obtain ⟨v, d, h1, h2, h3⟩ := r.map i h
        rw [h2] at q; cases q
        refine ⟨none, some v, ?_, ?_, rfl, v, rfl, rk h3⟩
        · rw [List.getElem?_cons_succ, List.getElem?_replicate, if_pos (by omega)]
        · rw [start_get _ hv, if_pos (by rw [List.length_cons, r.length]; omega), List.getElem?_cons_succ, h1]; rfl
      · rw [List.getElem?_append_right (by simpa using Nat.le_of_not_lt h), List.length_map, List.getElem?_replicate] at q
        split at q
        · rename_i h2
          cases q
          exact ⟨none, none, by rw [List.getElem?_cons_succ, List.getElem?_replicate, if_pos (by omega)], by rw [start_get _ hv, if_neg (by rw [List.length_cons, r.length]; omega), if_pos (by omega)], rfl⟩
        · cases q
  · obtain ⟨rfl, rfl⟩ := hM i b h
    simp at q
  · cases List.mem_singleton.mp h
    exact ⟨rfl, bg, rfl⟩
theorem fnB_ok {N : List Str} {k : Nat} {g : Fn} (F : FunD K x qual params body scope [] [] f fd) (S : FnScope N g.ps scope) (hb : Bd lm N scope body g) (hok : okS k ⟨P, w, base, K, mg, T⟩ g.body) (hfree : ∀ x ∈ builtinNames, mg x = none)
    (hl : lm = true → LamI base mg T fd.code (qual ++ ".<locals>.")) : FnOk P w K mg base (L2N.CX P w) (k + 1) f fd g.ps (spB K mg T g.runB) := by
  refine fund_ok F S (fun vs H R E h => ?_) (fun A outer s H vs R E hr h => ?_)
  · obtain ⟨W, a, ws, bg, ds, xs, hK, ht, hz, rfl, hza, ha, rb, r, h⟩ := h
    rw [List.length_cons, r.length]
    by_cases hl : ds.length + 1 = g.ps.length
    · exact hl
    · unfold Fn.runB at h
      rw [if_neg hl] at h; exact h.elim
  · obtain ⟨W, a, ws, bg, ds, xs, hK, ht, hz, rfl, hza, ha, rb, r, h⟩ := h
    let c : Ctx := ⟨⟨P, w, base, K, mg, T⟩, fun b => W.Z b ∧ b ≠ a, H, fun b => b = a, fun _ => 0, [(0, a)]⟩
    have hlen : ds.length + 1 = g.ps.length := by
      by_cases hl : ds.length + 1 = g.ps.length
      · exact hl
      · unfold Fn.runB at h
        rw [if_neg hl] at h; exact h.elim
    unfold Fn.runB at h
    rw [if_pos hlen] at h
    have ok : Ok c ⟨some a :: List.replicate (g.n - 1) none, W.O, []⟩ (L2.start N (.ref a :: ws)) H (g.enB bg ds) := entryB g.n hb.n hK ht hz hza ha rb r (by rw [hlen, hb.n]; exact hb.l) _
    have ax : At (cxOf (L2N.CX P w) P w K mg base N qual scope f fd.code A outer s H E) c N ⟨scope, none, lm⟩ k (fun cls d _ H => E cls d H) := ax_cx S hb.db rfl rfl rfl rfl rfl rfl hr hfree hl
    refine ⟨_, (ss_all g.body hok).all ax body hb.m, _, _, ok, ?_⟩
    have fin : ∀ {σ' : L2.St} {v : V} {H' : Hp} {G' : Gh} {e : En} {d : D} {bg' : List D}, StepS c ⟨some a :: List.replicate (g.n - 1) none, W.O, []⟩ H G' H' → Ok c G' σ' H' e → Rep (c.wd G') H' v d → e.getBag 0 = .ok bg' → (∀ v H' xs', ExtB a H H' → LamX.Tabs T H' → H' a = some (.lst xs') → Reps W H' xs' bg' → Rep W H' v d → R v H') → R v H' := fun {σ' v H' G' e d bg'} st ok' rr qb h => by
      obtain ⟨a', us, q1, q2, q3, q4, q5⟩ := bag_get ok' qb
      obtain ⟨b1, _⟩ := ok'.arg (0, a) (List.mem_singleton.mpr rfl)
      rw [q2] at b1; cases b1
      have zW : ∀ b, W.Z b → Zm c G' b := fun b z => by
        by_cases hba : b = a
        · subst hba; exact .inr (.inl (mem_M q2))
        · exact .inl ⟨z, hba⟩
      exact h v H' us (fun b o q n nb => ok'.fr.1 b o q n nb) ok'.fr.2 q4 (dats_back ok'.zl hK st.O.symm zW q5) (dat_back ok'.zl hK st.O.symm zW rr)
    cases q : evS g.body (g.enB bg ds) with
    | next e =>
      rw [q] at h
      cases qb : e.getBag 0 with
      | ok b =>
        dsimp only at h
        rw [qb] at h
        exact fun σ' H' G' st ok' => fin st ok' .non qb h
      | err m => dsimp only at h; rw [qb] at h; exact h.elim
      | bad => dsimp only at h; rw [qb] at h; exact h.elim
    | ret d e =>
      rw [q] at h
      cases qb : e.getBag 0 with
      | ok b =>
        dsimp only at h
        rw [qb] at h
        exact fun σ' v H' G' st ok' rr => fin st ok' rr qb h
      | err m => dsimp only at h; rw [qb] at h; exact h.elim
      | bad => dsimp only at h; rw [qb] at h; exact h.elim
    | retf ys e => rw [q] at h; exact h.elim
    | reto i e => rw [q] at h; exact h.elim
    | err m => rw [q] at h; exact h.elim
    | brk e => rw [q] at h; exact h.elim
    | bad => rw [q] at h; exact h.elim
/-- the law: its script is read alone -/
def spLaw (K : PySem.W.Frag) (T : List (Addr × Str)) : Sp := fun vs H Q _ => ∃ (a : Addr) (ns : List Int), vs = [.ref a] ∧ ns.length ≤ 64 ∧ (∀ z ∈ ns, Builtin.Int.intBits z ≤ 1048576) ∧ SqL K H a (ns.map V.int) ∧ LamX.Tabs T H ∧ ∀ H', Q (.bl true) H'
theorem reps_ints {W : Wd} {H : Hp} : ∀ ns : List Int, Reps W H (ns.map V.int) (ns.map PyData.int)
  | [] => .nil
  | n :: ns => .cons (.int n) (reps_ints ns)
theorem sp_law {g : Fn} (h : ∀ ns : List Int, ns.length ≤ 64 → (∀ z ∈ ns, Builtin.Int.intBits z ≤ 1048576) → g.run [scr (ns.map .int)] = .ok (.bool true)) (vs : List V) (H : Hp) (Q : VK) (E : XK) (q : spLaw K T vs H Q E) : spD K mg T g.run vs H Q E := by
  obtain ⟨a, ns, rfl, hl, hbits, hs, ht, hq⟩ := q
  refine ⟨⟨K, fun _ => False, []⟩, [scr (ns.map .int)], rfl, ht, fun b z => z.elim, .cons ?_ .nil, ?_⟩
  · rcases hs with (hs | hs) | hs
    · exact .scrL (fun z => z) hs (reps_ints ns)
    · exact .scr (.inl hs) (reps_ints ns)
    · exact .scr (.inr hs) (reps_ints ns)
  · rw [h ns hl hbits]
    exact fun v H' _ _ r => by cases r; exact hq H'
/-- a def whose value is a new list -/
theorem fnF_ok {N : List Str} {k : Nat} {g : Fn} (F : FunD K x qual params body scope [] [] f fd) (S : FnScope N g.ps scope) (hb : Bd lm N scope body g) (hok : okS k ⟨P, w, base, K, mg, T⟩ g.body) (hfree : ∀ x ∈ builtinNames, mg x = none)
    (hl : lm = true → LamI base mg T fd.code (qual ++ ".<locals>.")) : FnOk P w K mg base (L2N.CX P w) (k + 1) f fd g.ps (spF K mg T g.runF) := by
  refine fund_ok F S (fun vs H Q E h => ?_) (fun A outer s H vs R E hr h => ?_)
  · obtain ⟨W, ds, hK, ht, hz, r, h⟩ := h
    rw [r.length]
    unfold Fn.runF at h
    split at h
    · rename_i d heq
      split at heq
      · assumption
      · cases heq
    · rename_i d heq
      split at heq
      · assumption
      · cases heq
    · exact h.elim
  · obtain ⟨W, ds, hK, ht, hz, r, h⟩ := h
    let c : Ctx := ⟨⟨P, w, base, K, mg, T⟩, W.Z, H, fun _ => False, fun _ => 0, []⟩
    have hlen : ds.length = g.ps.length := by
      by_cases hl : ds.length = g.ps.length
      · exact hl
      · unfold Fn.runF at h
        rw [if_neg hl] at h; exact h.elim
    unfold Fn.runF at h
    rw [if_pos hlen] at h
    have ok : Ok c ⟨List.replicate g.n none, W.O, []⟩ (L2.start N vs) H (g.en ds) := entry g.n hb.n hK ht hz r (by rw [hlen, hb.n]; exact hb.l) _
    have ax : At (cxOf (L2N.CX P w) P w K mg base N qual scope f fd.code A outer s H E) c N ⟨scope, none, lm⟩ k (fun cls d _ H => E cls d H) := ax_cx S hb.db rfl rfl rfl rfl rfl rfl hr hfree hl
    refine ⟨_, (ss_all g.body hok).all ax body hb.m, _, _, ok, ?_⟩
    cases q : evS g.body (g.en ds) with
    | next e => rw [q] at h; exact h.elim
    | ret d e => rw [q] at h; exact h.elim
    | retf ys e =>
      rw [q] at h
      intro σ' v H' G0 G' st ok' gv
      obtain ⟨a, us, es, gx, rfl, ed, rr, nw, ne⟩ := gv
      cases ed
      have hp := List.mem_cons_self (a := (a, us)) (l := G0.X)
      rw [← gx] at hp
      refine h a H' us ?_ (ext_fr ok'.fr) ok'.fr.2 (ok'.pin (a, us) hp).1 ?_
      · rcases nw.own with z | z
        · exact z.elim
        · exact z
      · refine dats_back (W := ⟨W.K, fun b => W.Z b ∨ b = a, W.O⟩) ok'.zl hK st.O.symm (fun b z => ?_) rr
        rcases z with z | rfl
        · exact .inl z
        · exact .inr (.inr ⟨us, hp⟩)
    | reto i e =>
      rw [q] at h
      intro σ' v H' G' st ok' hv
      cases qo : e.getOwn i with
      | err m => exact (own_ne qo).elim
      | bad => dsimp only at h; rw [qo] at h; exact h.elim
      | ok ys =>
        dsimp only at h
        rw [qo] at h
        obtain ⟨a, us, q1, q2, q3, q4, q5⟩ := own_get ok' qo
        rw [q3] at hv; cases hv
        refine h a H' us ?_ (ext_fr ok'.fr) ok'.fr.2 q4 ?_
        · rcases ok'.own i a q2 with z | z
          · exact z.elim
          · exact z
        · refine dats_back (W := ⟨W.K, fun b => W.Z b ∨ b = a, W.O⟩) ok'.zl hK st.O.symm (fun b z => ?_) q5
          rcases z with z | rfl
          · exact .inl z
          · exact .inr (.inl (mem_M q2))
    | err m =>
      rw [q] at h
      exact fun C σ' H' hm fr => h C H' hm (ext_fr fr) fr.2
    | brk e => rw [q] at h; exact h.elim
    | bad => rw [q] at h; exact h.elim
end
end DV
set_option Elab.async false
set_option linter.all false
set_option maxRecDepth 100000
set_option maxHeartbeats 4000000
/-! While an exception is handled: pairs taken apart, zip at its end. -/
namespace DV
open PySem PySem.Spec PyProof.Rows L2 HotX L2H

section
variable {prog : Program} {w : World} {A : Around} {E : Value → Shared → Prop} {s : Shared}
/-- a new StopIteration is raised; the handled exception becomes its context -/
theorem stop_hot {t : Type} {x1 : Addr} {Q : t → Shared → Prop} (hot : HotAt A x1 s.heap)
    (hE : ∀ h' e, (∀ b o, s.heap.get? b = some o → h'.get? b = some o) → (∃ o, h'.get? e = some o ∧ o.cls = .type "StopIteration") → E (.ref e) { s with heap := h' }) :
    wpAny (model prog w) A (newExc (.type "StopIteration") [] >>= fun v => (raiseNew v : Sem t)) Q E s := by
  obtain ⟨hh, o1, vs1, h1, d1, c1⟩ := hot
  refine wpAny_bind ?_
  simp only [newExc, newTuple]
  refine wpAny_bind (wpAny_newObj_type ?_ (by size_fits))
  refine wpAny_bind (m := firstArgMember _ _) (wpAny_of_eq (a := Value.none) (by first | rfl | (simp only [firstArgMember]; rfl)) (wpAny_newObj_type ?_ (by size_fits)))
  have k1 := Heap.get?_push_of_some { cls := Value.type "tuple", data := Data.seq #[] } h1
  refine raiseNew_hot ⟨hh, o1, vs1, Heap.get?_push_of_some _ (Heap.get?_push_of_some _ h1), d1, c1⟩ (Nat.ne_of_lt (Heap.lt_size (Heap.get?_push_of_some _ h1))) (Heap.get?_push_size _ rfl) rfl (by first | (simp; done) | (simp; omega) | (simp only [Array.size_append]; simp; omega)) (hE _ _ (fun b o e => ?_) ⟨_, Heap.get?_update_self _ (Heap.get?_push_size _ rfl) rfl, rfl⟩)
  have e2 := Heap.get?_push_of_some { cls := Value.type "tuple", data := Data.seq #[] } e
  rw [Heap.get?_update_other _ _ (Nat.ne_of_gt (Heap.lt_size (Heap.get?_push_of_some _ e)))]
  exact Heap.get?_push_of_some _ (Heap.get?_push_of_some _ e)
/-- the state of the handled exception, behind steps that keep it -/
theorem hot_kept {x1 : Addr} {h h' : Heap} (hot : HotAt A x1 h) (k : ∀ o, h.get? x1 = some o → h'.get? x1 = some o) : HotAt A x1 h' := by
  obtain ⟨hh, o, vs, e, d, c⟩ := hot
  exact ⟨hh, o, vs, k o e, d, c⟩
theorem hot_in1 {x1 : Addr} {h : Heap} (hot : HotAt A x1 h) : HotAt A.in1 x1 h := hot
/-- the tuple's iterator is at its end -/
theorem tupEnd_hot {it t x1 : Addr} {i : Nat} {items} {Q : Option Value → Shared → Prop} (hot : HotAt A x1 s.heap) (hx1 : x1 ≠ it) (hit : IsTupIter s.heap it t i) (ht : IsTup s.heap t items) (hx : items[i]? = none)
    (hQ : ∀ h', (∀ b o, b ≠ it → s.heap.get? b = some o → h'.get? b = some o) → Q none { s with heap := h' }) : wpAny (model prog w) A (pyNext (.ref it)) Q E s := by
  obtain ⟨o, ho, hc, hd⟩ := id hit
  obtain ⟨ol, hol, _, nl, hdl⟩ := ht
  unfold pyNext
  refine wpAny_bind (wpAny_attempt (wpAny_callSpecial?_slot (name := Str.ofString "__next__") hit.typeIs slot_tupleiter_next (wpAny_call_entry slot_tupleiter_next hit.typeIs entry_tupleiter_next ?_ (args_tupleiter_next _))))
  show wpAny _ _ (field (.ref it) 0 >>= fun v => _) _ _ _
  refine wpAny_bind (wpAny_field ho hd (x := .ref t) rfl ?_)
  have nn : ¬ ((Value.ref t == Value.none) = true) := fun z => Bool.noConfusion (show false = true from z)
  simp only [if_neg nn]
  refine wpAny_bind (wpAny_field ho hd (x := .int i 0) rfl (wpAny_bind (wpAny_seqItems hol hdl ?_)))
  simp only [Int.toNat_natCast, hx]
  refine wpAny_bind (wpAny_rule (wpAny_bind (wpAny_setField ho hd (by simp) ?_)))
  have up : ∀ b ob, b ≠ it → s.heap.get? b = some ob → (s.heap.update it (Obj.mapFields fun x => x.setIfInBounds 0 Value.none)).get? b = some ob := fun b ob n e => by
    rw [Heap.get?_update_other _ _ (Ne.symm n)]; exact e
  refine stop_hot (s := { s with heap := s.heap.update it (Obj.mapFields fun x => x.setIfInBounds 0 Value.none) }) (hot_kept (hot_in1 hot) fun o e => up _ _ hx1 e) fun h' e k st => ?_
  obtain ⟨oe, e1, e2⟩ := st
  exact wpAny_bind (wpAny_isInstance (T := "StopIteration") (b := true) ⟨oe, e1, e2⟩ isSubtype_stop (wpAny_pure (hQ _ fun b ob n q => k b ob (up b ob n q))))
/-- a tuple taken apart -/
theorem unpack_hot {t x1 : Addr} {items : Array Value} {Q : List Value → Shared → Prop} (hot : HotAt A x1 s.heap) (ht : IsTup s.heap t items)
    (hQ : ∀ h', (∀ b o, b ≠ s.heap.objs.size → s.heap.get? b = some o → h'.get? b = some o) → Q items.toList { s with heap := h' }) : wpAny (model prog w) A (unpackItems (.ref t) items.size none) Q E s := by
  have ne : t ≠ s.heap.objs.size := let ⟨o, e, _⟩ := ht; Nat.ne_of_lt (Heap.lt_size e)
  have ne1 : x1 ≠ s.heap.objs.size := let ⟨_, o, _, e, _⟩ := hot; Nat.ne_of_lt (Heap.lt_size e)
  unfold unpackItems
  refine wpAny_bind ?_
  unfold notIterableAtAll
  refine wpAny_bind (wpAny_specialOf ht.typeIs slot_tuple_iter.lookup (wpAny_pure ?_))
  simp only [Bool.false_eq_true, if_false]
  refine wpAny_bind (wpAny_holding (iter_tuple ht (wpAny_bind (wpAny_holding (draw_tuple ne items.size 0 _ _ ⟨_, Heap.get?_push_size _ rfl, rfl, rfl⟩ (ht.push _) (by omega) fun h1 it1 sb1 => ?_)))))
  rw [show List.take items.size (List.drop 0 items.toList) = items.toList by rw [List.drop_zero]; exact List.take_of_length_le (by simp), if_neg (by simp)]
  have k1 : ∀ b o, b ≠ s.heap.objs.size → s.heap.get? b = some o → h1.get? b = some o := fun b o n e => sb1.extBut b o n (Heap.get?_push_of_some _ e)
  refine wpAny_bind (wpAny_holding (tupEnd_hot (s := { s with heap := h1 }) (hot_kept hot fun o e => k1 _ _ ne1 e) ne1 it1 ((ht.push _).extBut sb1.extBut ne) (by simp) fun h2 k2 => ?_))
  simp only [Option.isSome_none, Bool.false_eq_true, if_false]
  exact wpAny_pure (hQ h2 fun b o n e => k2 b o n (k1 b o n e))
/-- nextOf of a list's iterator at its end -/
theorem lstEnd_hot {it l x1 : Addr} {i : Nat} {items} {Q : Value → Shared → Prop} (hot : HotAt A x1 s.heap) (hx1 : x1 ≠ it) (hit : s.heap.IsListIter it l i) (hl : s.heap.IsList l items) (hx : items[i]? = none)
    (hE : ∀ h' e, (∀ b o, b ≠ it → s.heap.get? b = some o → h'.get? b = some o) → (∃ o, h'.get? e = some o ∧ o.cls = .type "StopIteration") → E (.ref e) { s with heap := h' }) :
    wpAny (model prog w) A (Builtin.SmallTypes.nextOf (.ref it)) Q E s := by
  obtain ⟨o, ho, hc, hd⟩ := id hit
  obtain ⟨ol, hol, _, nl, hdl⟩ := hl
  unfold Builtin.SmallTypes.nextOf
  refine wpAny_bind (wpAny_callSpecial?_slot (name := Str.ofString "__next__") hit.typeIs slot_listiter_next (wpAny_call_entry slot_listiter_next hit.typeIs entry_listiter_next ?_ (args_listiter_next _)))
  show wpAny _ _ (field (.ref it) 0 >>= fun v => _) _ _ _
  refine wpAny_bind (wpAny_field ho hd (x := .ref l) rfl ?_)
  have nn : ¬ ((Value.ref l == Value.none) = true) := fun z => Bool.noConfusion (show false = true from z)
  simp only [if_neg nn]
  refine wpAny_bind (wpAny_field ho hd (x := .int i 0) rfl (wpAny_bind (wpAny_seqItems hol hdl ?_)))
  simp only [Int.toNat_natCast, hx]
  refine wpAny_bind (wpAny_rule (wpAny_bind (wpAny_setField ho hd (by simp) ?_)))
  have up : ∀ b ob, b ≠ it → s.heap.get? b = some ob → (s.heap.update it (Obj.mapFields fun x => x.setIfInBounds 0 Value.none)).get? b = some ob := fun b ob n e => by
    rw [Heap.get?_update_other _ _ (Ne.symm n)]; exact e
  exact stop_hot (s := { s with heap := s.heap.update it (Obj.mapFields fun x => x.setIfInBounds 0 Value.none) }) (hot_kept (hot_in1 hot) fun o e => up _ _ hx1 e) fun h' e k st => hE h' e (fun b ob n q => k b ob (up b ob n q)) st
end
end DV
set_option Elab.async false
set_option linter.all false
set_option maxRecDepth 100000
set_option maxHeartbeats 4000000
/-! While an exception is handled: zip of two lists walked. -/
namespace DV
open PySem PySem.Spec PyProof.Rows L2 HotX L2H

section
variable {prog : Program} {w : World} {A : Around} {E : Value → Shared → Prop} {s : Shared}
theorem zipEnd_hot {z TI TO i1 i2 l1 l2 x1 : Addr} {k1 k2 : Nat} {xs ys : Array Value} {a b : Value} {Q : Option Value → Shared → Prop} (hot : HotAt A x1 s.heap) (nz : x1 ≠ z) (nO : x1 ≠ TO) (n1 : x1 ≠ i1) (n2 : x1 ≠ i2) (D : ZipApart z TI TO i1 i2 l1 l2)
    (hz : IsZip s.heap z TI TO .none) (hTI : IsPair s.heap TI (.ref i1) (.ref i2)) (hTO : IsPair s.heap TO a b) (h1 : s.heap.IsListIter i1 l1 k1) (h2 : s.heap.IsListIter i2 l2 k2) (hl1 : s.heap.IsList l1 xs) (hl2 : s.heap.IsList l2 ys) (hend : xs[k1]? = none ∨ ys[k2]? = none)
    (hQ : ∀ h', (∀ c o, c ≠ z → c ≠ TO → c ≠ i1 → c ≠ i2 → s.heap.get? c = some o → h'.get? c = some o) → Q none { s with heap := h' }) : wpAny (model prog w) A (pyNext (.ref z)) Q E s := by
  have hT : s.TypeIs (.ref z) "zip" := ⟨_, hz, rfl⟩
  unfold pyNext
  refine wpAny_bind (wpAny_attempt (wpAny_callSpecial?_slot (name := Str.ofString "__next__") hT F.slot_zip_next (wpAny_call_entry F.slot_zip_next hT F.entry_zip_next ?_ (F.args_zip_next_1 _))))
  have fin : ∀ h' e, (∀ c o, c ≠ z → c ≠ TO → c ≠ i1 → c ≠ i2 → s.heap.get? c = some o → h'.get? c = some o) → (∃ o, h'.get? e = some o ∧ o.cls = .type "StopIteration") →
      wpAny (model prog w) A (do if ← isInstance (.ref e) (.type "StopIteration") then pure none else throw (.ref e)) Q E { s with heap := h' } := fun h' e k ⟨oe, e1, e2⟩ =>
    wpAny_bind (wpAny_isInstance (T := "StopIteration") (b := true) ⟨oe, e1, e2⟩ isSubtype_stop (wpAny_pure (hQ h' k)))
  show wpAny _ _ (field (.ref z) 2 >>= fun v => _) _ _ _
  refine wpAny_bind (wpAny_field hz rfl (x := .bool false) rfl ?_)
  show wpAny _ _ (field (.ref z) 3 >>= fun v => _) _ _ _
  refine wpAny_bind (wpAny_field hz rfl (x := .ref TI) rfl (wpAny_bind (wpAny_seqItems hTI rfl ?_)))
  show wpAny _ _ (Builtin.SmallTypes.ownedTupleIsFree (.ref z) >>= fun v => _) _ _ _
  refine wpAny_bind ?_
  unfold Builtin.SmallTypes.ownedTupleIsFree
  refine wpAny_bind (wpAny_field hz rfl (x := .none) rfl (wpAny_pure ?_))
  simp only [if_true]
  refine wpAny_bind (wpAny_rule (wpAny_bind (wpAny_field hz rfl (x := .ref TO) rfl (wpAny_bind (wpAny_setField_rec hz (by simp) fun ha za sa => ?_)))))
  have za : IsZip ha z TI TO .ellipsis := za
  have hotA : HotAt A x1 ha := hot_kept hot fun o e => sa.extBut _ _ nz e
  refine wpAny_bind ?_
  simp only [List.zipIdx_cons, List.zipIdx_nil, List.forIn_cons, List.forIn_nil]
  refine wpAny_bind (wpAny_bind (wpAny_onRaise ?_))
  show wpAny _ _ (Builtin.SmallTypes.nextOf (.ref i1) >>= fun v => _) _ _ _
  cases hx : xs[k1]? with
  | none =>
    refine wpAny_bind (lstEnd_hot (s := { s with heap := ha }) hotA n1 (h1.extBut sa.extBut D.i1z) (hl1.extBut sa.extBut D.l1z) hx fun hb e kb st => ?_)
    obtain ⟨oe, e1, e2⟩ := st
    have zb := kb _ _ D.i1z.symm za
    have ne : e ≠ z := fun q => by
      rw [q, zb] at e1; cases e1; simp at e2
    exact wpAny_setField_rec zb (by simp) fun hc _ sc => fin hc e (fun c o c1 _ c3 _ q => sc.extBut _ _ c1 (kb _ _ c3 (sa.extBut _ _ c1 q))) ⟨oe, sc.extBut _ _ ne e1, e2⟩
  | some x =>
    have hy : ys[k2]? = none := hend.resolve_left fun q => by rw [hx] at q; cases q
    refine wpAny_bind (wpAny_nextOf_list_item (h1.extBut sa.extBut D.i1z) (hl1.extBut sa.extBut D.l1z) hx fun hb _ sb => wpAny_pure ?_)
    have TOb : IsPair hb TO a b := sb.extBut _ _ D.TOi1 (sa.extBut _ _ D.TOz hTO)
    refine wpAny_bind (wpAny_seqItems TOb rfl (wpAny_bind (wpAny_updateSeq_pair TOb fun hc _ sc => wpAny_bind (wpAny_letGo (wpAny_pure (wpAny_bind (wpAny_bind (wpAny_onRaise ?_))))))))
    show wpAny _ _ (Builtin.SmallTypes.nextOf (.ref i2) >>= fun v => _) _ _ _
    have hotC : HotAt A x1 hc := hot_kept hotA fun o e => sc.extBut _ _ nO (sb.extBut _ _ n1 e)
    refine wpAny_bind (lstEnd_hot (s := { s with heap := hc }) hotC n2 (((h2.extBut sa.extBut D.i2z).extBut sb.extBut D.i12.symm).extBut sc.extBut D.TOi2.symm) (((hl2.extBut sa.extBut D.l2z).extBut sb.extBut D.l2i1).extBut sc.extBut D.l2TO) hy fun hd e kd st => ?_)
    obtain ⟨oe, e1, e2⟩ := st
    have zd := kd _ _ D.i2z.symm (sc.extBut _ _ D.TOz.symm (sb.extBut _ _ D.i1z.symm za))
    have ne : e ≠ z := fun q => by
      rw [q, zd] at e1; cases e1; simp at e2
    exact wpAny_setField_rec zd (by simp) fun hf _ sf => fin hf e (fun c o c1 c2 c3 c4 q => sf.extBut _ _ c1 (kd _ _ c4 (sc.extBut _ _ c2 (sb.extBut _ _ c3 (sa.extBut _ _ c1 q))))) ⟨oe, sf.extBut _ _ ne e1, e2⟩
end

/-- the walk over zip(a, b), a, b lists -/
theorem zip_turnH {P : Program} {w : World} {K : PySem.W.Frag} {elts : List Expr} {kk : Nat} {tpos : Pos} {a b z TI TO i1 i2 : Addr} (D : ZipApart z TI TO i1 i2 a b) :
    TurnH P w K (.Tuple elts kk tpos) (Itz K a b) [z, TI, TO, i1, i2] z (fun i h => IsZip h z TI TO .none ∧ IsPair h TI (.ref i1) (.ref i2) ∧ (∃ x y, IsPair h TO x y) ∧ h.IsListIter i1 a i ∧ h.IsListIter i2 b i) := by
  have T := turn_zip (P := P) (w := w) (K := K) (elts := elts) (kk := kk) (tpos := tpos) D
  refine ⟨T.mem, T.obj, T.keep, ?_, ?_, T.self⟩
  · intro X hP hw hK hc i pins s σ H E I hf st hg
    subst hP hw hK
    obtain ⟨hz, hTI, ⟨x0, y0, hTO⟩, h1, h2⟩ := st
    obtain ⟨xs, ys, x, y, qx, qy, hx, hy⟩ := hg
    obtain ⟨us, ru, pu, _⟩ := I.list qx
    obtain ⟨ws, rw', pw, _⟩ := I.list qy
    obtain ⟨u, hu, r1⟩ := ru.get hx
    obtain ⟨v, hv, r2⟩ := rw'.get hy
    refine wpAny_pyNext_zip_item D hz hTI hTO h1 h2 pu.isList pw.isList (x := u) (y := v) (by simpa using hu) (by simpa using hv) fun ha za TOa h1a h2a Ta sz ka => ?_
    have zl : z < s.heap.objs.size := Heap.lt_size hz
    refine ⟨_, rfl, wpAny_letOwnedTupleGo_zip (s := { s with heap := ha }) za fun hb zb sb => ?_⟩
    have Tb : hb.get? s.heap.objs.size = some { cls := .type "tuple", data := .seq #[u, v] } := (sb.2 _ (Nat.ne_of_gt zl)).trans Ta
    have kp : ∀ c o, c ∉ [z, TI, TO, i1, i2] → s.heap.get? c = some o → hb.get? c = some o := fun c o n e => by
      simp only [List.mem_cons, List.not_mem_nil, or_false, not_or] at n
      exact (sb.2 c n.1).trans (ka c o n.1 n.2.2.1 n.2.2.2.1 n.2.2.2.2 e)
    have I1 : Inv X pins σ (upd H s.heap.objs.size (.tup [x, y])) { s with heap := hb } := I.turnedNew (t' := s.toks) (ch := [z, TI, TO, i1, i2]) kp hf (Nat.le_refl _) ⟨by show 2 ≤ sizeLine; decide, [u, v], .cons r1 (.cons r2 .nil), ⟨_, Tb, rfl, _, rfl⟩⟩
    have low : ∀ c ∈ [z, TI, TO, i1, i2], c < s.heap.objs.size := fun c hcm => by
      simp only [List.mem_cons, List.not_mem_nil, or_false] at hcm
      rcases hcm with q | q | q | q | q <;> rw [q]
      · exact zl
      · exact Heap.lt_size hTI
      · exact Heap.lt_size hTO
      · exact let ⟨_, e, _⟩ := h1; Heap.lt_size e
      · exact let ⟨_, e, _⟩ := h2; Heap.lt_size e
    exact ⟨.ref s.heap.objs.size, _, I1, rfl, ⟨_, x, y, rfl, I.hok.fresh (Nat.le_refl _), rfl, fun l hl => by rw [I.list_inj hl qx]; exact hx, fun l hl => by rw [I.list_inj hl qy]; exact hy⟩,
      ⟨zb, (sb.2 _ D.TIz).trans (ka _ _ D.TIz D.TITO D.TIi1 D.TIi2 hTI), ⟨u, v, (sb.2 _ D.TOz).trans TOa⟩, h1a.at fun o q => (sb.2 _ D.i1z).trans q, h2a.at fun o q => (sb.2 _ D.i2z).trans q⟩, fun c hcm => by
        rw [upd_ne (Nat.ne_of_lt (low c hcm))]; exact (hf c hcm).1⟩
  · intro X hP hw hK hc i pins s σ H E I hf st hg
    subst hP hw hK
    obtain ⟨hz, hTI, ⟨x0, y0, hTO⟩, h1, h2⟩ := st
    obtain ⟨xs, ys, qx, qy, he⟩ := hg
    obtain ⟨us, ru, pu, _⟩ := I.list qx
    obtain ⟨ws, rw', pw, _⟩ := I.list qy
    obtain ⟨p, ⟨hh, v1, d1, c1⟩, hp⟩ := hc
    have gp := (I.pin p (List.mem_append_left _ hp)).1
    have apart : ∀ c ∈ [z, TI, TO, i1, i2], p.1 ≠ c := fun c hcm q => (hf c hcm).2.2.2.2.2 p (List.mem_append_left _ hp) q
    refine zipEnd_hot ⟨hh, p.2, v1, gp, d1, c1⟩ (apart _ (by simp)) (apart _ (by simp)) (apart _ (by simp)) (apart _ (by simp)) D hz hTI hTO h1 h2 pu.isList pw.isList ?_ fun h' k => ⟨rfl, I.turnedL (t' := s.toks) (ch := [z, TI, TO, i1, i2]) (fun c o n e => ?_) hf⟩
    · have l1 := ru.length
      have l2 := rw'.length
      rcases he with q | q
      · exact .inl (by simp; omega)
      · exact .inr (by simp; omega)
    · simp only [List.mem_cons, List.not_mem_nil, or_false, not_or] at n
      exact k c o n.1 n.2.2.1 n.2.2.2.1 n.2.2.2.2 e
end DV
set_option Elab.async false
set_option linter.all false
set_option maxRecDepth 100000
set_option maxHeartbeats 4000000
/-! While an exception is handled: a pair as target, list comprehensions. -/
namespace DV
open PySem PySem.Spec PyProof.Rows L2 HotX L2H

section
variable {X : Cx} {pos : Pos}
theorem tup_hot {es : List Expr} {k : Nat} {t : TGs} {n : Nat} (hc : HotC X) (h : PGs X es t) (hn : (assignEach es X.env).length = n) (hst : (assignEach es X.env).findIdx? (·.1) = none) : PG X (.Tuple es k pos) (gTup X.K n t) := by
  refine ⟨fun pins s σ H v u Q I r hw => ?_⟩
  obtain ⟨a, xs, e, hq, hl, hw⟩ := hw
  subst e; cases r
  obtain ⟨x1, hot⟩ := hc.at I
  obtain ⟨its, rv, ht, hz⟩ := I.tuple hq
  rw [assign_Tuple]
  refine wpAny_bind (wpAny_standAt ?_)
  unfold unpack
  rw [show (assignEach es X.env).length = its.toArray.size by rw [hn, ← hl, rv.length]; simp, hst]
  refine wpAny_bind (wpAny_holding (unpack_hot hot ht fun h' k => ?_))
  have I1 : Inv X pins σ H { s with heap := h' } := I.kept (t' := s.toks) fun b o e => k b o (Nat.ne_of_lt (Heap.lt_size e)) e
  exact h.run pins _ σ H xs _ Q I1 (by simpa using rv) hw
/-- the block's context, p's object in it -/
def blkP (X : Cx) (s : Shared) (H : Hp) (scope : Scope) (cenv : Env) (fp : List Addr) (p : Addr × Obj) : Cx := { X.blk s H scope cenv fp with pn := [p] }
theorem blkP_hot {p : Addr × Obj} (h : Hot1 X.A p) (s : Shared) (H : Hp) (scope : Scope) (cenv : Env) (fp : List Addr) : HotC (blkP X s H scope cenv fp p) := ⟨p, h, List.mem_singleton_self p⟩
theorem blkP_inv {s0 s' : Shared} {H0 H' : Hp} {scope : Scope} {cenv : Env} {fp : List Addr} {p : Addr × Obj} {σ : L2.St} (I : Inv (X.blk s0 H0 scope cenv fp) [] σ H' s')
    (hp : s'.heap.get? p.1 = some p.2 ∧ H' p.1 = none ∧ p.1 ≠ cenv.locals ∧ p.1 ∉ frs X.stack ∧ ∀ v, p.2.data ≠ .cell v) : Inv (blkP X s0 H0 scope cenv fp p) [] σ H' s' :=
  ⟨⟨I.ok.mod, I.ok.kind, I.ok.glob, I.ok.blt, I.ok.above, I.ok.inj, I.ok.has, I.ok.cab, I.ok.hd, I.ok.frames, I.ok.stk, I.ok.exf, I.ok.bs, I.ok.bsz, I.ok.noex, I.ok.exfs, I.ok.funs, I.ok.frf⟩, I.os, I.bare, I.base, I.loc, I.cell, I.free, I.freeC, fun q hq => by
    have e : q = p := by simpa using (show q ∈ [p] ++ ([] : List (Addr × Obj)) from hq)
    rw [e]; exact hp, I.hok, I.len⟩
theorem lc_hot {pins : List (Addr × Obj)} {s : Shared} {σ : L2.St} {H : Hp} {Q : VK} {elt tg iter : Expr} {ifs : List Expr} {scope : Scope} {own : List (Str × Nat)} {pos : Pos} {wi : TI} {g : TG} {tt : TT} {te : TE} {p : Addr × Obj}
    (hot : Hot1 X.A p) (hp : p ∈ X.pn) (hN : X.N.Nodup) (I : Inv X pins σ H s) (hi : PIH X tg iter wi) (ok : BlkOk X.N X.env.scope scope own)
    (hg : ∀ (s : Shared) (H : Hp) (C : Addr) (cl : List (Str × Addr)) (fp : List Addr), PG (blkP X s H scope (compEnvC scope cl C X.env) fp p) tg g) (ht : ∀ (s : Shared) (H : Hp) (C : Addr) (cl : List (Str × Addr)) (fp : List Addr), PTs (blkP X s H scope (compEnvC scope cl C X.env) fp p) ifs tt)
    (he : ∀ (s : Shared) (H : Hp) (C : Addr) (cl : List (Str × Addr)) (fp : List Addr), PE (blkP X s H scope (compEnvC scope cl C X.env) fp p) elt te) (hs : ∀ x, foldedSetIterable iter X.env x = pure x)
    (h : tLc wi g tt te (own.map (·.2)) σ H Q) : wpAny (model X.prog X.w) X.A (eval (.ListComp elt [⟨tg, iter, ifs, 0⟩] scope pos) X.env) (EP X pins σ Q) X.xe s := by
  rw [eval_ListComp]
  have cap : ∀ y ∈ scope.names, y.2 = .free → ∃ c, X.env.cells.lookup y.1 = some c := fun y hy e => (ok.free y hy e).elim (fun k => I.ok.has _ (.inl k)) fun k => I.ok.has _ (.inr k)
  refine wpAny_comprehension_free (use := none) rfl hs (closure_ok cap) ok.kind (fun y hy e => by rw [ok.uniq y hy, e]) (thn (hi.run pins s σ H _ I h) fun xv s1 hx => thn hx fun itv s2 h2 => ?_)
  obtain ⟨it, fp, tn, J, H2, e, I2, T, st2, f2, q⟩ := h2
  subst e
  refine wpAny_newObj_type (newEnv_comp ?_) (by show 0 ≤ sizeLine; decide)
  generalize hD : s2.heap.objs.size = D
  have nD : H2 D = none := I2.hok.fresh (Nat.le_of_eq hD)
  obtain ⟨W, ⟨m0, w0⟩, turn⟩ := q D nD
  generalize hs3 : ({ s2 with heap := s2.heap.push { cls := .type "list", data := .seq ([] : List Value).toArray } } : Shared) = s3
  have h3 : s3.heap = s2.heap.push { cls := .type "list", data := .seq ([] : List Value).toArray } := by rw [← hs3]
  have I3 : Inv X pins σ (upd H2 D (.lst [])) s3 := by
    rw [← hs3]
    exact I2.laid (t' := s2.toks) (fun b o e => Heap.get?_push_of_some _ e) (Nat.le_of_eq hD) ⟨Nat.zero_le _, [], 0, .nil, by rw [← hD]; exact Heap.get?_push_size _ rfl⟩
  have low : ∀ b ∈ fp, b < s2.heap.objs.size := fun b hb => let ⟨o, e, _⟩ := T.obj _ _ st2 b hb; Heap.lt_size e
  have f3 : ∀ b ∈ fp, FpOk X pins (upd H2 D (.lst [])) b ∧ b < s3.heap.objs.size := fun b hb =>
    ⟨⟨by rw [upd_ne (by rw [← hD]; exact Nat.ne_of_lt (low b hb))]; exact (f2 b hb).1, (f2 b hb).2⟩, by rw [h3, Heap.size_push]; exact Nat.lt_succ_of_lt (low b hb)⟩
  have st3 : tn 0 s3.heap := T.keep _ _ _ st2 fun b _ o e => by rw [h3]; exact Heap.get?_push_of_some _ e
  have p3 := I3.pin p (List.mem_append_left _ hp)
  have I4b := block_start I3 ok hN f3
  have kpC : ∀ b o, s3.heap.get? b = some o → (pushCells (s3.heap.push { cls := .type "dict", data := .dict #[] }) scope.names).get? b = some o := fun b o e => pushCells_keeps _ _ _ _ (Heap.get?_push_of_some _ e)
  have pfr : p.1 ∉ frs X.stack := fun z => by
    rcases I3.ok.stk with q | ⟨q, qf⟩
    · rw [q] at z; exact p3.2.2.2.1 z
    · rw [q] at z
      unfold frs at z
      rw [List.filterMap_cons] at z
      rw [qf] at z
      rcases List.mem_cons.mp z with z | z
      · exact p3.2.2.1 z
      · exact p3.2.2.2.1 z
  have pn4 : p.1 ≠ s3.heap.objs.size := Nat.ne_of_lt (Heap.lt_size p3.1)
  have pg := hg s3 (upd H2 D (.lst [])) s3.heap.objs.size (cellsFrom (s3.heap.objs.size + 1) scope.names (cloFrom X.env.cells scope.names [])) fp
  have pt := ht s3 (upd H2 D (.lst [])) s3.heap.objs.size (cellsFrom (s3.heap.objs.size + 1) scope.names (cloFrom X.env.cells scope.names [])) fp
  have pe := he s3 (upd H2 D (.lst [])) s3.heap.objs.size (cellsFrom (s3.heap.objs.size + 1) scope.names (cloFrom X.env.cells scope.names [])) fp
  show codeAny _ _ (.compStart (.ListComp elt [⟨tg, iter, ifs, 0⟩] scope pos) 0 (.ref it) (.ref D) (compEnvC scope (cellsFrom (s3.heap.objs.size + 1) scope.names (cloFrom X.env.cells scope.names [])) s3.heap.objs.size X.env)) (compPost (model X.prog X.w) X.A X.xe none _ (.ref D) s3.heap.objs.size) { s3 with heap := pushCells (s3.heap.push { cls := .type "dict", data := .dict #[] }) scope.names }
  have nfp : ∀ b ∈ fp, (upd H2 D (.lst [])) b = none := fun b hb => (f3 b hb).1.1
  generalize hce : compEnvC scope (cellsFrom (s3.heap.objs.size + 1) scope.names (cloFrom X.env.cells scope.names [])) s3.heap.objs.size X.env = ce at I4b pg pt pe ⊢
  have cL : ce.locals = s3.heap.objs.size := by rw [← hce]; rfl
  generalize hH3 : upd H2 D (.lst []) = H3 at I3 I4b pg pt pe w0 nfp f3 p3
  have I4 := blkP_inv I4b ⟨kpC _ _ p3.1, p3.2.1, by rw [cL]; exact pn4, pfr, p3.2.2.2.2⟩
  have hcx := blkP_hot (X := X) hot s3 H3 scope ce fp
  generalize hs4 : ({ s3 with heap := pushCells (s3.heap.push { cls := .type "dict", data := .dict #[] }) scope.names } : Shared) = s4 at I4 ⊢
  have st4 : tn 0 s4.heap := T.keep _ _ _ st3 fun b _ o e => by rw [← hs4]; exact kpC _ _ e
  have stat : ∀ {σ' : L2.St} {H' : Hp} {s' : Shared}, Inv (blkP X s3 H3 scope ce fp p) [] σ' H' s' → (∀ b ∈ fp, H' b = none) → ∀ b ∈ fp, FpOk (blkP X s3 H3 scope ce fp p) [] H' b := fun {σ' H' s'} I' hn b hb =>
    ⟨hn b hb, (I'.ok.exf b hb).1, I'.ok.exfs b hb, .inl hb, fun x c e => (I'.ok.exf b hb).2 x c e, fun q hq => by
      have e : q = p := by simpa using (show q ∈ [p] ++ ([] : List (Addr × Obj)) from hq)
      rw [e]; exact (f2 b hb).2.2.2.2.2 p (List.mem_append_left _ hp)⟩
  have loop : codeAny (model X.prog X.w) X.A (.compLoop (.ListComp elt [⟨tg, iter, ifs, 0⟩] scope pos) 0 (.ref it) (.ref D) ce) (compPost (model X.prog X.w) X.A X.xe none (EP X pins σ Q) (.ref D) s3.heap.objs.size) s4 := by
    refine compLoop_any (fun n s' => ∃ i H', Inv (blkP X s3 H3 scope ce fp p) [] (wipe σ (own.map (·.2))) H' s' ∧ tn i s'.heap ∧ (∀ b ∈ fp, H' b = none) ∧ W i n H') ?_ m0 ⟨0, H3, I4, st4, nfp, w0⟩
    rintro n s5 ⟨i, H5, I5, st5, n5, w5⟩
    rcases turn i n H5 w5 with ⟨stop, qq⟩ | ⟨go, Nx, hNx, step⟩
    · refine thnF (T.done (blkP X s3 H3 scope ce fp p) rfl rfl rfl hcx i [] s5 _ H5 (fun _ _ => False) I5 (stat I5 n5) st5 stop) fun r s6 ⟨hr, I6⟩ => ?_
      subst hr
      have I7 : Inv X pins σ H5 s6 := I3.call' (ch := fp) I6.os I6.base I6.hok I6.bare fun b hb => ⟨(f3 b hb).1.2.2.2.1, (f3 b hb).1.2.1, (f3 b hb).1.2.2.2.2.1, (f3 b hb).1.2.2.2.2.2⟩
      have nC : H5 s3.heap.objs.size = none := by
        have z : H5 ce.locals = none := I6.free
        rwa [cL] at z
      obtain ⟨m, hn, _⟩ := I6.loc
      have hn : s6.heap.Ns ce.locals m := hn
      rw [cL] at hn
      obtain ⟨g0, g1, g2, g3, g4, g5⟩ := I3.fpOk (Nat.le_refl _) nC
      exact ⟨m, hn, fun h'' sb => ⟨.ref D, H5, I7.turned (t' := s6.toks) (fun b o hb e => (sb.2 b hb).trans e) g0 g1 g3 g4 g5, rfl, qq⟩⟩
    · refine thnF (T.item (blkP X s3 H3 scope ce fp p) rfl rfl rfl hcx i [] s5 _ H5 (fun _ _ => False) I5 (stat I5 n5) st5 go) fun r s6 ⟨u, hr, h6⟩ => ?_
      subst hr
      refine thnF h6 fun _ s7 ⟨x, H7, I7, r7, y7, st7, n7⟩ => ?_
      have J7 := I7.pinned (stat I7 n7) (T.obj _ _ st7)
      refine thnF (pg.run _ s7 _ H7 x u _ J7 r7 (step x H7 y7)) fun _ s8 ⟨σ8, H8, I8, hw8, q8⟩ => thnF (pt.run _ s8 σ8 H8 _ I8 q8) fun b s9 ⟨H9, I9, q9⟩ => ?_
      have fin : ∀ {s' : Shared} {H' : Hp}, Inv (blkP X s3 H3 scope ce fp p) ([] ++ pinsAt fp s7.heap) σ8 H' s' → Nx H' → ∃ m, m < n ∧ ∃ i H', Inv (blkP X s3 H3 scope ce fp p) [] (wipe σ (own.map (·.2))) H' s' ∧ tn i s'.heap ∧ (∀ b ∈ fp, H' b = none) ∧ W i m H' := fun {s' H'} I' nx => by
        obtain ⟨m', hm, w'⟩ := hNx H' nx
        have held : ∀ b ∈ fp, ∀ o, s7.heap.get? b = some o → s'.heap.get? b = some o ∧ H' b = none := fun b hb o e =>
          let z := I'.pin (b, o) (List.mem_append_right _ (List.mem_append_right _ (mem_pinsAt hb e)))
          ⟨z.1, z.2.1⟩
        refine ⟨m', hm, i + 1, H', (I'.unpinned (pins := [])).weak (by rw [← hw8, wipe_length]) (fun j v e => (wipe_some (by rw [hw8]; exact e)).1), T.keep _ _ _ st7 fun b hb o e => (held b hb o e).1, fun b hb => ?_, w'⟩
        obtain ⟨o, e, _⟩ := T.obj _ _ st7 b hb
        exact (held b hb o e).2
      cases b with
      | false =>
        simp only [Bool.false_eq_true, if_false] at q9 ⊢
        exact fin I9 q9
      | true =>
        simp only [if_true] at q9 ⊢
        refine thnF (pe.run _ s9 σ8 H9 _ I9 q9) fun z s10 ⟨yv, H10, I10, r10, acc, hD10, hz10, nx⟩ => ?_
        exact app_ok (X := blkP X s3 H3 scope ce fp p) I10 hD10 hz10 r10 fun s11 I11 => fin I11 nx
  exact codeAny_compStart_list loop (T.self X.A 0 _ _ _ st4 loop)
end
end DV
set_option Elab.async false
set_option linter.all false
set_option maxRecDepth 100000
set_option maxHeartbeats 4000000
/-! The error's own words: isinstance of the handled exception, ten times; the words that hold, joined. -/
namespace DV
open PySem PySem.Spec PyProof.Rows L2 HotX L2H

section
variable {X : Cx}
theorem zip_piH {e e2 : Expr} {ta : TA} {p pos tpos : Pos} {elts : List Expr} {kk : Nat} (hg : Gl X "zip") (hm : X.mg "zip" = none) (ha : PA X [e, e2] ta)
    (hs : starEach [e, e2] X.env = (false, eval e X.env) :: starEach [e2] X.env) (hpl : (backTo pos (starEach [e2] X.env)).any (·.1) = false) : PIH X (.Tuple elts kk tpos) (.Call (.Name "zip" p) [e, e2] [] pos) (iZip X.K ta) := by
  refine ⟨fun pins s σ H R I h => Call_ (ld_blt I hg hm PyProof.Rows.boot_zip (PyProof.Rows.callWith_type1 (thn (ha.run pos pins s σ H _ I h) fun us s1 ⟨vs, H1, I1, r1, q1⟩ => ?_) hs hpl))⟩
  obtain ⟨a, b, xs, ys, ex, qx, qy, q⟩ := q1
  subst ex
  obtain ⟨u1, u2, rfl, ru1, ru2⟩ : ∃ u1 u2, us = [u1, u2] ∧ RelV (.ref a) u1 ∧ RelV (.ref b) u2 := by
    cases r1 with
    | cons r rr => cases rr with
      | cons r' rr => cases rr; exact ⟨_, _, rfl, r, r'⟩
  cases ru1; cases ru2
  obtain ⟨_, _, p1, _⟩ := I1.list qx
  obtain ⟨_, _, p2, _⟩ := I1.list qy
  refine call_zip_2 p1.isList p2.isList fun h' hz hTI hTO h1 h2 hsz hk => wpAny_pyIter_zip hz ?_
  have I2 : Inv X pins σ H1 { s1 with heap := h' } := I1.kept (t' := s1.toks) hk
  refine ⟨_, [s1.heap.objs.size + 4, s1.heap.objs.size + 2, s1.heap.objs.size + 3, s1.heap.objs.size, s1.heap.objs.size + 1], _, _, H1, rfl, I2, zip_turnH (PySem.W.ktu_apart s1.heap.objs.size a b p1.lt p2.lt), ⟨hz, hTI, ⟨_, _, hTO⟩, h1, h2⟩, fun c hcm => ?_, q⟩
  have hle : s1.heap.objs.size ≤ c := by
    simp only [List.mem_cons, List.not_mem_nil, or_false] at hcm
    rcases hcm with z | z | z | z | z <;> rw [z] <;> first | exact Nat.le_add_right _ _ | exact Nat.le_refl _
  exact I1.fpOk hle (I1.hok.fresh hle)
/-- isinstance of the handled exception -/
theorem isE_hot {a D : Addr} {oe : Obj} (hp : (a, oe) ∈ X.pn) (C : ExcC X.K D) (hz : Zc (.ref D) none oe) (hf : ∃ vs, oe.data = .fields vs) : CallR X (.builtin "isinstance") (rIsE X.K D a) := by
  intro pins s σ H xs us Q I r h
  obtain ⟨c, cv, b, rfl, hcv, e, q⟩ := h
  obtain ⟨u1, u2, rfl, r1, r2⟩ : ∃ u1 u2, us = [u1, u2] ∧ RelV (.ref a) u1 ∧ RelV c u2 := by
    cases r with
    | cons r rr => cases rr with
      | cons r' rr => cases rr; exact ⟨_, _, rfl, r, r'⟩
  cases r1
  have ec := hcv _ r2
  subst ec
  have hget := (I.pin (a, oe) (List.mem_append_left _ hp)).1
  obtain ⟨vs, hv⟩ := hf
  have J : PySem.W.InstAt s.heap a oe D none := by
    cases oe
    obtain ⟨h1, h2⟩ := hz
    cases h1; cases h2; cases hv
    exact ⟨hget, rfl, rfl, trivial⟩
  exact PySem.W.kia_one (PySem.W.handS_kitx_exc C.hg C.hk C.hs C.hd C.ha C.hn C.ht C.hm) I.kIn J e (fun z => nomatch z) fun tk => ⟨.bl b, H, I.kept (t' := tk) fun _ _ z => z, rfl, q⟩
/-- the class cn: what it is, whether the exception of class D is one -/
def ClsE (X : Cx) (D : Addr) (cn : Str) (b : Bool) : Prop := ∃ c cv, (∀ p, PE X (.Name cn p) (tC c)) ∧ (∀ u, RelV c u → u = cv) ∧ PySem.W.kitOne X.K (.ref D) cv = some b
def tIs (a : Addr) (b : Bool) : TE := fun σ H Q => σ[0]? = some (some (.ref a)) ∧ Q (.bl b) H
theorem pe_isE {a D : Addr} {oe : Obj} {e cn : Str} {b : Bool} {p1 p2 p3 p4 : Pos} (hp : (a, oe) ∈ X.pn) (C : ExcC X.K D) (hz : Zc (.ref D) none oe) (hf : ∃ vs, oe.data = .fields vs) (hg : Gl X "isinstance") (hm : X.mg "isinstance" = none) (he : PE X (.Name e p2) (tVar 0)) (hc : ClsE X D cn b) :
    PE X (.Call (.Name "isinstance" p1) [.Name e p2, .Name cn p3] [] p4) (tIs a b) := by
  obtain ⟨c, cv, h1, h2, h3⟩ := hc
  refine PE.imp (pe_callB (isE_hot hp C hz hf) hg hm PyProof.Rows.boot_isinstance (pa_cons he (pa_cons (h1 p3) pa_nil))) fun σ H Q ⟨q1, q2⟩ => ⟨_, q1, c, cv, b, rfl, h2, h3, q2⟩
/-- the words for which the bits stand -/
def errPick : List Str → List Bool → List Str
  | w :: ws, b :: bs => if b = true then w :: errPick ws bs else errPick ws bs
  | _, _ => []
theorem errPick_take (ws : List Str) (bs : List Bool) (i : Nat) {w : Str} {b : Bool} (hw : ws[i]? = some w) (hb : bs[i]? = some b) : errPick (ws.take (i + 1)) (bs.take (i + 1)) = errPick (ws.take i) (bs.take i) ++ if b = true then [w] else [] := by
  induction i generalizing ws bs with
  | zero =>
    cases ws with
    | nil => simp at hw
    | cons x ws => cases bs with
      | nil => simp at hb
      | cons y bs =>
        simp at hw hb
        subst hw hb
        cases y <;> simp [errPick]
  | succ i ih =>
    cases ws with
    | nil => simp at hw
    | cons x ws => cases bs with
      | nil => simp at hb
      | cons y bs =>
        simp only [List.getElem?_cons_succ] at hw hb
        have := ih ws bs hw hb
        simp only [List.take_succ_cons, errPick]
        rw [this]
        cases y <;> simp
theorem errPick_len : ∀ (ws : List Str) (bs : List Bool), (errPick ws bs).length ≤ ws.length
  | [], _ => Nat.le_refl _
  | w :: ws, [] => Nat.zero_le _
  | w :: ws, b :: bs => by
    have := errPick_len ws bs
    unfold errPick
    split <;> simp <;> omega
abbrev errWords : Str := "boat plan flow number facts text unlike none undo value"
def errText (bs : List Bool) : Str := Txt.join " " (errPick (Txt.split errWords " ") bs)
theorem words_len : (Txt.split errWords " ").length = 10 := by decide +kernel
/-- the comprehension over the words and the bits -/
theorem tLc_words {σ : L2.St} {H : Hp} {Q : VK} {pb : Addr} {bs : List Bool} {K : PySem.W.Frag} (hb : bs.length = 10) (h2 : σ[2]? = some (some (.str errWords))) (h1 : σ[1]? = some (some (.ref pb))) (hl : 5 ≤ σ.length) (hH : H pb = some (.lst (bs.map V.bl)))
    (q : ∀ H' d, Same H H' → H' d = some (.lst ((errPick (Txt.split errWords " ") bs).map V.str)) → Q (.ref d) H') :
    tLc (iZip K (tCons (tM1 (fun x xs H Q => ∃ a b, x = .str a ∧ xs = [.str b] ∧ (b.length == 0) = false ∧ a.length + 2 ≤ sizeLine ∧ rNewStrs (Txt.split a b) H Q) (tVar 2) (tC (.str " "))) (tCons (tVar 1) tNil))) (gTup K 2 (gCons (gName 3) (gCons (gName 4) gNil))) (L2.tB (tVar 4)) (tVar 3) [3, 4] σ H Q := by
  refine ⟨.str errWords, h2, ⟨_, rfl⟩, errWords, " ", rfl, rfl, by decide +kernel, by rw [sz]; decide +kernel, fun pw hpw => ?_⟩
  have sm := same_upd (o := .lst ((Txt.split errWords " ").map V.str)) hpw
  have hH1 := sm pb _ hH
  refine ⟨_, h1, pw, pb, _, _, rfl, .inl (.inl upd_same), .inl (.inl hH1), fun d hd => ?_⟩
  have smd := same_upd (o := .lst []) hd
  generalize hHd : upd (upd H pw (.lst ((Txt.split errWords " ").map V.str))) d (.lst []) = Hd at smd
  have wp : Hd pw = some (.lst ((Txt.split errWords " ").map V.str)) := by rw [← hHd]; exact same_upd hd pw _ upd_same
  have wb : Hd pb = some (.lst (bs.map V.bl)) := by rw [← hHd]; exact same_upd hd pb _ hH1
  have wd : Hd d = some (.lst []) := by rw [← hHd]; exact upd_same
  have npd : pw ≠ d := fun z => by rw [z] at wp; rw [wd] at wp; cases hw : (Txt.split errWords " ").map V.str with
    | nil => have := congrArg List.length hw; rw [List.length_map, words_len] at this; cases this
    | cons _ _ => rw [hw] at wp; cases wp
  have nbd : pb ≠ d := fun z => by rw [z, wd] at wb; cases hw : bs.map V.bl with
    | nil => have := congrArg List.length hw; rw [List.length_map, hb] at this; cases this
    | cons _ _ => rw [hw] at wb; cases wb
  have s0 : ∀ c o, H c = some o → Hd c = some o := fun c o e => by rw [← hHd]; exact same_upd hd c o (sm c o e)
  have nHd : H d = none := by
    cases e : H d with
    | none => rfl
    | some o => rw [sm d o e] at hd; cases hd
  refine ⟨fun i m H' => i + m = 10 ∧ (∀ c o, H c = some o → H' c = some o) ∧ H' pw = some (.lst ((Txt.split errWords " ").map V.str)) ∧ H' pb = some (.lst (bs.map V.bl)) ∧ H' d = some (.lst ((errPick ((Txt.split errWords " ").take i) (bs.take i)).map V.str)),
    ⟨10, rfl, s0, wp, wb, by rw [wd]; rfl⟩, fun i m H' ⟨hm, k0, k1, k2, k3⟩ => ?_⟩
  cases m with
  | zero =>
    have hi : i = 10 := by omega
    subst hi
    left
    refine ⟨⟨_, _, .inl (.inl k1), .inl (.inl k2), .inl (by rw [List.length_map, words_len]; exact Nat.le_refl _)⟩, q H' d k0 ?_⟩
    rw [k3, List.take_of_length_le (by rw [words_len]; exact Nat.le_refl _), List.take_of_length_le (by rw [hb]; exact Nat.le_refl _)]
  | succ m =>
    right
    have hi : i < 10 := by omega
    obtain ⟨w, hw⟩ : ∃ w, (Txt.split errWords " ")[i]? = some w := ⟨_, List.getElem?_eq_getElem (by rw [words_len]; exact hi)⟩
    obtain ⟨b, hbi⟩ : ∃ b, bs[i]? = some b := ⟨_, List.getElem?_eq_getElem (by rw [hb]; exact hi)⟩
    have gw : ((Txt.split errWords " ").map V.str)[i]? = some (.str w) := by rw [List.getElem?_map, hw]; rfl
    have gb : (bs.map V.bl)[i]? = some (.bl b) := by rw [List.getElem?_map, hbi]; rfl
    refine ⟨⟨_, _, _, _, .inl (.inl k1), .inl (.inl k2), gw, gb⟩, fun H'' => (∀ c o, H c = some o → H'' c = some o) ∧ H'' pw = some (.lst ((Txt.split errWords " ").map V.str)) ∧ H'' pb = some (.lst (bs.map V.bl)) ∧ H'' d = some (.lst ((errPick ((Txt.split errWords " ").take (i + 1)) (bs.take (i + 1))).map V.str)),
      fun H'' h => ⟨m, Nat.lt_succ_self m, by omega, h⟩, fun v H'' ⟨T, x, y, ev, hT, eH, hx, hy⟩ => ?_⟩
    have ex := hx _ (.inl (.inl k1)); rw [gw] at ex; cases ex
    have ey := hy _ (.inl (.inl k2)); rw [gb] at ey; cases ey
    subst ev eH
    have smT := same_upd (o := .tup [.str w, .bl b]) hT
    have e3 : 3 < (wipe σ [3, 4]).length := by rw [wipe_length]; omega
    have e4 : 4 < (wipe σ [3, 4]).length := by rw [wipe_length]; omega
    refine ⟨T, [.str w, .bl b], rfl, .inl (.inl upd_same), rfl, .str w, _, rfl, .bl b, [], rfl, rfl, ?_, .bl b, ?_, b, rfl, ?_⟩
    · have o3 := (Only.set 3 (some (V.str w)) (wipe σ [3, 4])).mono (ws := [3, 4]) fun i hi => by simp at hi; simp [hi]
      have o4 := (Only.set 4 (some (V.bl b)) ((wipe σ [3, 4]).set 3 (some (V.str w)))).mono (ws := [3, 4]) fun i hi => by simp at hi; simp [hi]
      refine Eq.trans (o3.trans o4) ?_
      apply List.ext_getElem?
      intro j
      simp only [wipe_get]
      by_cases hj : j ∈ [3, 4]
      · rw [if_pos hj, if_pos hj]; cases σ[j]? <;> rfl
      · rw [if_neg hj, if_neg hj]
    · rw [List.getElem?_set_self (by rw [List.length_set]; exact e4)]
    · have gl : (errPick ((Txt.split errWords " ").take i) (bs.take i)).length < 16777216 := by
        have := errPick_len ((Txt.split errWords " ").take i) (bs.take i)
        rw [List.length_take, words_len] at this; omega
      have pk := errPick_take _ _ i hw hbi
      cases b with
      | false =>
        dsimp only
        rw [if_neg (by decide)]
        refine ⟨fun c o e => smT c o (k0 c o e), smT _ _ k1, smT _ _ k2, ?_⟩
        rw [pk, if_neg (by decide), List.append_nil]; exact smT _ _ k3
      | true =>
        dsimp only
        rw [if_pos rfl]
        refine ⟨.str w, ?_, (errPick ((Txt.split errWords " ").take i) (bs.take i)).map V.str, smT _ _ k3, by rw [List.length_map, sz]; exact gl, fun c o e => ?_, ?_, ?_, ?_⟩
        · rw [List.getElem?_set_ne (by decide), List.getElem?_set_self e3]
        · rw [upd_ne fun z => by rw [z, nHd] at e; cases e]
          exact smT c o (k0 c o e)
        · rw [upd_ne npd]; exact smT _ _ k1
        · rw [upd_ne nbd]; exact smT _ _ k2
        · rw [upd_same, pk, if_pos rfl, List.map_append]; rfl
end
end DV
set_option Elab.async false
set_option linter.all false
set_option maxRecDepth 100000
set_option maxHeartbeats 4000000
/-! The def that tells an error's words. -/
namespace DV
open PySem PySem.Spec PyProof.Rows L2 HotX L2H

section
variable {X : Cx} {a D : Addr} {oe : Obj}
theorem pa_isE {es : List (Str × Bool)} {e : Str} (hp : (a, oe) ∈ X.pn) (C : ExcC X.K D) (hz : Zc (.ref D) none oe) (hf : ∃ vs, oe.data = .fields vs) : True := trivial
/-- bits in a new list -/
theorem lst_bits3 {σ : L2.St} {H : Hp} {Q : VK} {b1 b2 b3 : Bool} (h0 : σ[0]? = some (some (.ref a))) (q : ∀ p, H p = none → Q (.ref p) (upd H p (.lst [.bl b1, .bl b2, .bl b3]))) : tLst (tCons (tIs a b1) (tCons (tIs a b2) (tCons (tIs a b3) tNil))) σ H Q :=
  ⟨h0, h0, h0, by rw [sz]; show 3 ≤ 16777216; decide, q⟩
theorem cat_bits {σ : L2.St} {H : Hp} {Q : VK} {p : Addr} {xs ys : List V} {te : TE} (h1 : σ[1]? = some (some (.ref p))) (hp : H p = some (.lst xs)) (hx : xs.length + ys.length ≤ 20)
    (he : ∀ Q' : VK, (∀ q, H q = none → Q' (.ref q) (upd H q (.lst ys))) → te σ H Q') (q : ∀ H' r, Same H H' → H' r = some (.lst (xs ++ ys)) → Q (.ref r) H') : tOp rCat (tVar 1) te σ H Q := by
  refine ⟨_, h1, he _ fun q1 hq1 => ⟨p, q1, xs, ys, rfl, rfl, same_upd hq1 p _ hp, upd_same, by rw [sz]; omega, fun r hr => q _ r ((same_upd hq1).trans (same_upd hr)) upd_same⟩⟩
theorem pick_small : ∀ b1 b2 b3 b4 b5 b6 b7 b8 b9 b10 : Bool, ((errPick (Txt.split errWords " ") [b1, b2, b3, b4, b5, b6, b7, b8, b9, b10]).map (·.length)).sum + (errPick (Txt.split errWords " ") [b1, b2, b3, b4, b5, b6, b7, b8, b9, b10]).length * (" " : Str).length ≤ 200 := by
  decide +kernel
abbrev tWs (K : PySem.W.Frag) : TE := tLc (iZip K (tCons (tM1 (fun x xs H Q => ∃ a b, x = .str a ∧ xs = [.str b] ∧ (b.length == 0) = false ∧ a.length + 2 ≤ sizeLine ∧ rNewStrs (Txt.split a b) H Q) (tVar 2) (tC (.str " "))) (tCons (tVar 1) tNil))) (gTup K 2 (gCons (gName 3) (gCons (gName 4) gNil))) (L2.tB (tVar 4)) (tVar 3) [3, 4]
/-- what the def's text is -/
theorem named_body {e so ws wd gd c1 c2 c3 c4 c5 c6 c7 c8 c9 c10 : Str} {b1 b2 b3 b4 b5 b6 b7 b8 b9 b10 : Bool} {scope : Scope} {xy : Nat}
    {p1 p2 p3 p4 p5 p6 p7 p8 p9 p10 p11 p12 p13 p14 p15 p16 p17 p18 p19 p20 p21 p22 p23 p24 p25 p26 p27 p28 p29 p30 p31 p32 p33 p34 p35 p36 p37 p38 p39 p40 p41 p42 p43 p44 p45 p46 p47 p48 p49 p50 p51 p52 p53 p54 p55 p56 p57 p58 p59 p60 p61 p62 p63 p64 p65 p66 p67 p68 p69 p70 p71 p72 p73 p74 p75 p76 p77 p78 p79 p80 : Pos} {k1 k2 k3 k4 k5 : Nat}
    (hot : Hot1 X.A (a, oe)) (hp : (a, oe) ∈ X.pn) (hz : Zc (.ref D) none oe) (hf : ∃ vs, oe.data = .fields vs) (C : ExcC X.K D) (hN : X.N = [e, so, ws, wd, gd]) (nd : X.N.Nodup) (hfn : ∀ x, X.fn x = true)
    (le : X.env.scope.names.lookup e = some .local) (ls : X.env.scope.names.lookup so = some .local) (lw : X.env.scope.names.lookup ws = some .local) (hdb : ∀ x ∈ [e, so, ws, wd, gd], (x == ("__debug__" : Str)) = false ∧ (x == ("__classdict__" : Str)) = false)
    (gi : Gl X "isinstance") (mi : X.mg "isinstance" = none) (gz : Gl X "zip") (mz : X.mg "zip" = none)
    (h1 : ClsE X D c1 b1) (h2 : ClsE X D c2 b2) (h3 : ClsE X D c3 b3) (h4 : ClsE X D c4 b4) (h5 : ClsE X D c5 b5) (h6 : ClsE X D c6 b6) (h7 : ClsE X D c7 b7) (h8 : ClsE X D c8 b8) (h9 : ClsE X D c9 b9) (h10 : ClsE X D c10 b10)
    (bo : blkC X.N X.env.scope scope [(wd, 3), (gd, 4)] = true) (lwd : isLoc ((relS scope X.env.scope).names.lookup wd) = true) (lgd : isLoc ((relS scope X.env.scope).names.lookup gd) = true)
    (fwd : scope.names.lookup wd = some .cell ∨ (relS scope X.env.scope).names.lookup wd = some .local) (fgd : scope.names.lookup gd = some .cell ∨ (relS scope X.env.scope).names.lookup gd = some .local)
    (ln1 : (p41.endLine == p42.line) = true) (ln2 : (p43.endLine == p44.line) = true) :
    PSs X [.Assign [.Name so p1] (.List [.Call (.Name "isinstance" p2) [.Name e p3, .Name c1 p4] [] p5, .Call (.Name "isinstance" p6) [.Name e p7, .Name c2 p8] [] p9, .Call (.Name "isinstance" p10) [.Name e p11, .Name c3 p12] [] p13] p14) p15,
      .Assign [.Name so p16] (.BinOp (.Name so p17) .Add (.List [.Call (.Name "isinstance" p18) [.Name e p19, .Name c4 p20] [] p21, .Call (.Name "isinstance" p22) [.Name e p23, .Name c5 p24] [] p25, .Call (.Name "isinstance" p26) [.Name e p27, .Name c6 p28] [] p29] p30) p31) p32,
      .Assign [.Name so p33] (.BinOp (.Name so p34) .Add (.List [.Call (.Name "isinstance" p35) [.Name e p36, .Name c7 p37] [] p38, .Call (.Name "isinstance" p39) [.Name e p40, .Name c8 p45] [] p46, .Call (.Name "isinstance" p47) [.Name e p48, .Name c9 p49] [] p50] p51) p52) p53,
      .Assign [.Name ws p54] (.Constant (.str errWords) k1 p55) p56,
      .Assign [.Name so p57] (.BinOp (.Name so p58) .Add (.List [.Call (.Name "isinstance" p59) [.Name e p60, .Name c10 p61] [] p62] p63) p64) p65,
      .Return (some (.Call (.Attribute (.Constant (.str " ") k2 p66) "join" p41) [.ListComp (.Name wd p67) [⟨.Tuple [.Name wd p68, .Name gd p69] k3 p70, .Call (.Name "zip" p71) [.Call (.Attribute (.Name ws p72) "split" p43) [.Constant (.str " ") k4 p73] [] p44, .Name so p74] [] p75, [.Name gd p76], 0⟩] scope p77] [] p42)) p78]
      (fun E σ H => σ.length = 5 ∧ σ[0]? = some (some (.ref a)) ∧ ∀ H', Same H H' → E.rt (.str (errText [b1, b2, b3, b4, b5, b6, b7, b8, b9, b10])) H') := by
  have n0 : X.N[0]? = some e := by rw [hN]; rfl
  have n1 : X.N[1]? = some so := by rw [hN]; rfl
  have n2 : X.N[2]? = some ws := by rw [hN]; rfl
  have n3 : X.N[3]? = some wd := by rw [hN]; rfl
  have n4 : X.N[4]? = some gd := by rw [hN]; rfl
  have d0 := hdb e (by simp)
  have d1 := hdb so (by simp)
  have d2 := hdb ws (by simp)
  have d3 := hdb wd (by simp)
  have d4 := hdb gd (by simp)
  have ve : ∀ p, PE X (.Name e p) (tVar 0) := fun p => pe_var n0 (.inl le) d0.1 d0.2
  have vs : ∀ p, PE X (.Name so p) (tVar 1) := fun p => pe_var n1 (.inl ls) d1.1 d1.2
  have vw : ∀ p, PE X (.Name ws p) (tVar 2) := fun p => pe_var n2 (.inl lw) d2.1 d2.2
  have is_ : ∀ {cn : Str} {b : Bool} {q1 q2 q3 q4 : Pos}, ClsE X D cn b → PE X (.Call (.Name "isinstance" q1) [.Name e q2, .Name cn q3] [] q4) (tIs a b) := fun h => pe_isE hp C hz hf gi mi (ve _) h
  have l3 : ∀ {ca cb cc : Str} {x y z : Bool} {q1 q2 q3 q4 q5 q6 q7 q8 q9 q10 q11 q12 q13 : Pos}, ClsE X D ca x → ClsE X D cb y → ClsE X D cc z →
      PE X (.List [.Call (.Name "isinstance" q1) [.Name e q2, .Name ca q3] [] q4, .Call (.Name "isinstance" q5) [.Name e q6, .Name cb q7] [] q8, .Call (.Name "isinstance" q9) [.Name e q10, .Name cc q11] [] q12] q13) (tLst (tCons (tIs a x) (tCons (tIs a y) (tCons (tIs a z) tNil)))) := fun ha hb hc =>
    pe_lst (pa_cons (is_ ha) (pa_cons (is_ hb) (pa_cons (is_ hc) pa_nil)))
  have set1 : ∀ {x : Expr} {te : TE} {q1 q2 : Pos}, PE X x te → swapsWith x (some (.Name so q1)) q2.line X.env = pure false → PS X (.Assign [.Name so q1] x q2) (tAsg te (gName 1)) := fun h hs => ps_set nd n1 (.inl ls) h hs (.inl (hfn so))
  have bok := blkOk_by bo
  have lc : PE X (.ListComp (.Name wd p67) [⟨.Tuple [.Name wd p68, .Name gd p69] k3 p70, .Call (.Name "zip" p71) [.Call (.Attribute (.Name ws p72) "split" p43) [.Constant (.str " ") k4 p73] [] p44, .Name so p74] [] p75, [.Name gd p76], 0⟩] scope p77) (tWs X.K) :=
    ⟨fun pins s σ H Q I h => lc_hot (own := [(wd, 3), (gd, 4)]) hot hp nd I (zip_piH (tpos := p70) (kk := k3) (elts := [.Name wd p68, .Name gd p69]) gz mz (pa_cons (pe_split (vw p72) pe_str rfl rfl ln2) (pa_cons (vs p74) pa_nil)) rfl rfl) bok
      (fun s0 H0 C0 cl fp => by
        have hc := blkP_hot (X := X) hot s0 H0 scope (compEnvC scope cl C0 X.env) fp
        refine tup_hot hc (pgs_cons (pg_name (i := 3) nd n3 (loc_of lwd) ?_) (pgs_cons (pg_name (i := 4) nd n4 (loc_of lgd) ?_) pgs_nil)) rfl rfl
        · rcases fwd with z | z
          · left; show (scope.names.lookup wd == some .cell) = true; rw [z]; rfl
          · exact .inr z
        · rcases fgd with z | z
          · left; show (scope.names.lookup gd == some .cell) = true; rw [z]; rfl
          · exact .inr z)
      (fun s0 H0 C0 cl fp => pts_one (pt_val (pe_var (i := 4) n4 ((loc_of lgd).elim .inl fun z => .inr (.inl z)) d4.1 d4.2)))
      (fun s0 H0 C0 cl fp => pe_var (i := 3) n3 ((loc_of lwd).elim .inl fun z => .inr (.inl z)) d3.1 d3.2) (fun _ => rfl) h⟩
  refine PSs.imp (pss_cons (set1 (l3 h1 h2 h3) rfl) (pss_cons (set1 (pe_op op_cat (vs p17) (l3 h4 h5 h6)) rfl) (pss_cons (set1 (pe_op op_cat (vs p34) (l3 h7 h8 h9)) rfl) (pss_cons (ps_set nd n2 (.inl lw) pe_str rfl (.inl (hfn ws))) (pss_cons (set1 (pe_op op_cat (vs p58) (pe_lst (pa_cons (is_ h10) pa_nil))) rfl)
    (pss_one (ps_ret (pe_join pe_str lc rfl rfl ln1)))))))) fun E σ H ⟨hl, h0, q⟩ => ?_
  obtain ⟨x0, x1, x2, x3, x4, rfl⟩ : ∃ x0 x1 x2 x3 x4, σ = [x0, x1, x2, x3, x4] := by
    match σ, hl with
    | [x0, x1, x2, x3, x4], _ => exact ⟨x0, x1, x2, x3, x4, rfl⟩
  have h0 : some x0 = some (some (V.ref a)) := h0
  cases h0
  unfold tSeq tAsg gName
  dsimp only
  refine lst_bits3 rfl fun r1 hr1 => ?_
  try unfold tSeq tAsg gName
  try dsimp only [List.set]
  try unfold tC
  try dsimp only [List.set]
  refine cat_bits (xs := [.bl b1, .bl b2, .bl b3]) (ys := [.bl b4, .bl b5, .bl b6]) rfl upd_same (by show 6 ≤ 20; decide) (fun Q' hq => lst_bits3 rfl hq) fun H2 r2 s2 e2 => ?_
  try unfold tSeq tAsg gName
  try dsimp only [List.set]
  try unfold tC
  try dsimp only [List.set]
  refine cat_bits (ys := [.bl b7, .bl b8, .bl b9]) rfl e2 (by show 9 ≤ 20; decide) (fun Q' hq => lst_bits3 rfl hq) fun H3 r3 s3 e3 => ?_
  try unfold tSeq tAsg gName
  try dsimp only [List.set]
  try unfold tC
  try dsimp only [List.set]
  refine cat_bits (ys := [.bl b10]) rfl e3 (by show 10 ≤ 20; decide) (fun Q' hq => ⟨rfl, by rw [sz]; show 1 ≤ 16777216; decide, hq⟩) fun H4 r4 s4 e4 => ?_
  have sm : Same H H4 := (same_upd hr1).trans (s2.trans (s3.trans s4))
  try unfold tSeq tAsg gName
  try dsimp only [List.set, tRet, tM1, tC]
  refine ⟨⟨_, rfl⟩, ?_⟩
  refine tLc_words (bs := [b1, b2, b3, b4, b5, b6, b7, b8, b9, b10]) rfl rfl rfl (by show 5 ≤ 5; decide) e4 fun H5 d s5 e5 => ?_
  refine ⟨" ", d, _, rfl, rfl, .inl (.inl (.inl e5)), ?_, q H5 (sm.trans s5)⟩
  generalize hp : errPick (Txt.split errWords " ") [b1, b2, b3, b4, b5, b6, b7, b8, b9, b10] = ps
  have hsum : (ps.map (·.length)).sum + ps.length * (" " : Str).length ≤ 200 := by
    rw [← hp]; exact pick_small ..
  omega
end
end DV
set_option Elab.async false
set_option linter.all false
set_option maxRecDepth 100000
set_option maxHeartbeats 4000000
/-! A def called with the exception that the suite holds. -/
namespace DV
open PySem PySem.Spec PyProof.Rows L2 HotX L2H

/-- the def's body, told of the handled exception p -/
theorem run_hot {CX : CXT} {P : Program} {w : World} {K : PySem.W.Frag} {mg : Str → Option Value} {base : Heap} {k : Nat} {f : Addr} {name qual : Str} {params : Arguments} {body : List Stmt} {scope : Scope} {dV kV doc pm cdv ct oc : Value} {an od : Option Addr}
    {osl : Array (Option Value)} {N ps : List Str} (lk : K.lookup f = some ⟨oc, od, .func (PySem.W.fnOf name qual params body scope dV kV doc pm an cdv ct), osl⟩) (hcd : PySem.W.codeIn K cdv qual = true) (S : FnScope N ps scope)
    {A : Around} {outer : List Env} {s : Shared} {H : Hp} {args : Args} {us : List Value} {vs : List V} {Q : VK} {E : XK} {p : Addr × Obj} (hr : RoomH (k + 1) A) (hot : Hot1 A p) (hpin : PinOk outer H s p) (e0 : Env0 P w K mg base A outer s H)
    (hb : BindsTo s (PySem.W.fnOf name qual params body scope dV kV doc pm an cdv ct) args (ps.zip us)) (r : Vals vs us) (hl : vs.length = ps.length)
    (hbody : ∃ t, PSs (cxH CX P w K mg base N qual scope f cdv A outer s H E p) body t ∧ t { nx := fun _ H' => Q .non H', rt := Q } (L2.start N vs) H) :
    codeAny (model P w) A (.call (.ref f) args) (CR CX outer P w H s Q E) s := by
  have KX : K.In s.heap := e0.mod.kin.keeps fun b o e => (e0.bs b o e).1
  refine codeAny_call_function hr.depth (KX _ _ lk) rfl S.co S.gen rfl (PySem.W.codeRec_of KX hcd) (hb _ _ _ _ (wpAny_newFunctionEnv_cells S.kind (fun ⟨n, v⟩ hy => ?_) fun env he s1 x => ?_))
  · exact (S.par n (List.of_mem_zip hy).1).elim .inl fun q => .inr ⟨q, PySem.W.cellsFrom_some _ _ _ (.inl q)⟩
  · subst he
    refine ⟨(e0.mod.nolimit.keeps fun b o e => (e0.bs b o e).1).keeps x.toInCall.keep, codeAny_func ?_⟩
    obtain ⟨t, ht, hq⟩ := hbody
    have I := inv_startH (CX := CX) (E := E) (f := f) (qual := qual) (cd := cdv) S hpin e0 hl r x
    refine wpAny_mono (ht.run [] s1 (L2.start N vs) H _ I hq) (fun fl s' hs => ?_) fun e s' hs => hs
    cases fl with
    | ret u => exact let ⟨v, σ', H', J, rv, q⟩ := hs; ⟨v, H', J.os, J.bare, J.base, J.hok, rv, q⟩
    | next => exact let ⟨σ', H', J, q⟩ := hs; ⟨V.non, H', J.os, J.bare, J.base, J.hok, rfl, q⟩
    | brk => exact let ⟨_, _, _, q⟩ := hs; q.elim
    | cont => exact let ⟨_, _, _, q⟩ := hs; q.elim
section
variable {X : Cx}
/-- f(e), e the exception that the suite holds -/
theorem pe_callE {k : Nat} {f : Addr} {x e qual : Str} {params : Arguments} {body : List Stmt} {scope : Scope} {dV kV doc pm cdv ct oc : Value} {an od : Option Addr} {osl : Array (Option Value)} {N ps : List Str} {p p2 pos : Pos} {i : Nat} {a : Addr} {oe : Obj} {pn : List (Addr × Obj)} {txt : Str}
    (lk : X.K.lookup f = some ⟨oc, od, .func (PySem.W.fnOf x qual params body scope dV kV doc pm an cdv ct), osl⟩) (hcd : PySem.W.codeIn X.K cdv qual = true) (S : FnScope N ps scope) (hps : ps.length = 1) (hb : L2.Binds X.K (PySem.W.fnOf x qual params body scope dV kV doc pm an cdv ct) ps [])
    (hr : Room (k + 1) X.A) (hot : Hot1 (X.A.mark (some (.ref a))) (a, oe)) (hg : Gl X x) (hm : X.mg x = some (.ref f)) (hk : PySem.W.keepIn X.K (.ref f) = true) (hdb : (x == ("__debug__" : Str)) = false) (he : PE (X.suite a ((a, oe) :: pn)) (.Name e p2) (tVar i))
    (hbody : ∀ (A : Around) (outer : List Env) (s : Shared) (H : Hp) (Q : VK) (E : XK), Hot1 A (a, oe) → (∀ H', Same H H' → Q (.str txt) H') →
      ∃ t, PSs (cxH (L2N.CX X.prog X.w) X.prog X.w X.K X.mg X.base N qual scope f cdv A outer s H E (a, oe)) body t ∧ t { nx := fun _ H' => Q .non H', rt := Q } (L2.start N [.ref a]) H) :
    PE (X.suite a ((a, oe) :: pn)) (.Call (.Name x p) [.Name e p2] [] pos) (fun σ H Q => σ[i]? = some (some (.ref a)) ∧ ∀ H', Same H H' → Q (.str txt) H') := by
  refine ⟨fun pins s σ H Q I ⟨h0, q⟩ => ?_⟩
  refine wpAny_Call_Name_kw (ld_glob I hg hm ?_ hdb)
  refine PySem.W.callWith_K (h₀ := X.base) I.ok.mod.kin hk (Calls.spliced_cons (thn (he.run pins s σ H (fun v H1 => v = .ref a ∧ H1 = H) I ⟨_, h0, rfl, rfl⟩) fun u s1 ⟨v, H1, I1, r1, q1⟩ => Calls.spliced_nil ?_))
  obtain ⟨ev, eH⟩ := q1
  subst ev eH
  cases r1
  refine ⟨I1.kIn, ?_⟩
  have P1 := I1.pin (a, oe) (List.mem_append_left _ List.mem_cons_self)
  have hpin : PinOk X.stack H1 s1 (a, oe) := ⟨P1.1, P1.2.1, fun z => (List.mem_cons.mp (I1.stkSub a z)).elim P1.2.2.1 P1.2.2.2.1, P1.2.2.2.2⟩
  have b := hb s1 [.ref a] I1.kIn (by rw [hps]; rfl)
  have rh : RoomH (k + 1) (X.A.mark (some (.ref a))) := ⟨hr.dp, hr.un⟩
  refine wpAny_call (codeAny_mono (run_hot (CX := L2N.CX X.prog X.w) (E := fun _ _ _ => False) (us := [.ref a]) (vs := [.ref a]) lk hcd S rh hot hpin I1.env0 b (.cons rfl .nil) (by rw [hps]; rfl) (hbody _ _ _ _ Q _ hot q)) fun r s' hq => ?_)
  cases r with
  | error e =>
    obtain ⟨_, _, _, _, _, _, _, _, _, _, _, _, z⟩ := hq
    exact z.elim
  | ok fl =>
    cases fl with
    | ret u => exact I1.after hq
    | next => exact False.elim hq
    | brk => exact False.elim hq
    | cont => exact False.elim hq
end
end DV
set_option Elab.async false
set_option linter.all false
set_option maxRecDepth 100000
set_option maxHeartbeats 4000000
/-! A lambda called within a try. -/
namespace DV
open PySem PySem.Spec PyProof.Rows L2 HotX L2H LamX

/-- the context of a lambda's body -/
def lamX (X : Cx) (A : Around) (outer : List Env) (s : Shared) (H : Hp) (E : XK) (scope : Scope) (f c' : Addr) : Cx := (lamCx X A outer s H E scope f c').wish fun e s' =>
  wpAny (model X.prog X.w) (A.deeper (lamEnv X scope s.heap.objs.size f c')) (leaving (lamEnv X scope s.heap.objs.size f c') e) (fun _ s'' => L2N.CX X.prog X.w outer H s E e s'') (fun e' s'' => L2N.CX X.prog X.w outer H s E e' s'') s'
section
variable {X : Cx} {pins : List (Addr × Obj)} {σ : L2.St} {H : Hp} {s : Shared}
/-- a() in the def that got the lambda -/
theorem pe_actN {CXg : CXT} {Eg : XK} {Ng : List Str} {qg : Str} {sg : Scope} {g f c' : Addr} {cdg pm ctv : Value} {params : Arguments} {body : Expr} {scope : Scope} {k i : Nat} {a : Str} {pn : List (Addr × Obj)} {xe : Value → Shared → Prop} {W : WX} {tb : XK → TE} {p1 p2 : Pos}
    (I : Inv X pins σ H s) (L : LamS X.env.scope scope) (hf : s.heap.get? f = some (PySem.W.kla_obj "<lambda>" (X.env.qual ++ "<lambda>") params body scope (cloFrom X.env.cells scope.names []) pm c' ctv)) (hfn : H f = none) (hfr : f ∉ frs X.stack)
    (hbind : bindArgs (PySem.W.kla_fn "<lambda>" (X.env.qual ++ "<lambda>") params body scope (cloFrom X.env.cells scope.names []) pm (.ref c') ctv) ⟨[], []⟩ = pure [])
    (tk : L2N.Takes ((cxOf CXg X.prog X.w X.K X.mg X.base Ng qg sg g cdg X.A X.stack s H Eg).tr pn xe) W) (hr : Room (k + 1) (X.A.deeper (envOfC qg sg s.heap.objs.size g cdg)))
    (hbody : ∀ (E : XK) (A : Around) (outer : List Env) (s : Shared) (H : Hp), Room k (A.deeper (lamEnv X scope s.heap.objs.size f c')) → PE (lamX X A outer s H E scope f c') body (tb E))
    (hN : Ng[i]? = some a) (hv : Vis sg a) (hd : (a == ("__debug__" : Str)) = false) (hcd : (a == ("__classdict__" : Str)) = false) :
    PE ((cxOf CXg X.prog X.w X.K X.mg X.base Ng qg sg g cdg X.A X.stack s H Eg).tr pn xe) (.Call (.Name a p1) [] [] p2)
      (fun σZ HZ Q => σZ[i]? = some (some (.ref f)) ∧ HZ c' = some (CodeO c' (X.env.qual ++ "<lambda>")) ∧ ∃ E : XK, (∀ cls d H', E cls d H' → W cls d σZ H') ∧ tb E σ HZ Q) := by
  refine ⟨fun pinsZ sZ σZ HZ Q IZ ⟨hs, hc, E, hW, ht⟩ => ?_⟩
  refine wpAny_Call_Name_kw (thn ((pe_var (pos := p1) (i := i) hN hv hd hcd).run pinsZ sZ σZ HZ (fun v H1 => v = .ref f ∧ H1 = HZ) IZ ⟨.ref f, hs, rfl, rfl⟩) fun u s1 ⟨v, H1, I1, r1, ev, eH⟩ => ?_)
  subst ev eH
  obtain rfl : u = Value.ref f := r1
  have of1 := I1.base.keep f _ hf hfn hfr (fun z => nomatch (show f ∈ ([] : List Addr) from z))
  refine PySem.W.callWith_F0 ⟨_, _, _, _, of1⟩ ?_
  obtain ⟨⟨oc, vs, t, hoc, hdc, hvc⟩, _, _⟩ := I1.hok c' _ hc
  have un : Un (frs X.stack) [] H H1 s.heap s1.heap := I1.base
  have rc : codeAny (model X.prog X.w) (X.A.deeper (envOfC qg sg s.heap.objs.size g cdg)) (.call (.ref f) ⟨[], []⟩) (CR (L2N.CX X.prog X.w) (envOfC qg sg s.heap.objs.size g cdg :: X.stack) X.prog X.w H1 s1 Q E) s1 := by
    refine PySem.W.kla_callFunE hr.depth of1 rfl L.co L.gen rfl ⟨c', oc, vs, t, rfl, hoc, hdc, hvc⟩ ?_
    rw [hbind]
    refine wpAny_pure (wpAny_newFunctionEnv (fun y hy => (L.own y hy).2) (fun y hy => absurd hy (by simp)) (fun h₁ hns hsb => ⟨I1.nolimit.fresh _ hsb, ?_⟩) L.kind)
    have kp : ∀ b o, s1.heap.get? b = some o → h₁.get? b = some o := fun b o e => hsb.extBut b o (Nat.ne_of_lt (Heap.lt_size e)) (Heap.get?_push_of_some _ e)
    have J := (lam_start2 (E := E) (f := f) (c' := c') (tk := s1.toks + ([] : List (Str × Value)).length) I L I1.env0 hr.hd un hns kp).wish fun e s' =>
      wpAny (model X.prog X.w) ((X.A.deeper (envOfC qg sg s.heap.objs.size g cdg)).deeper (lamEnv X scope s1.heap.objs.size f c')) (leaving (lamEnv X scope s1.heap.objs.size f c') e) (fun _ s'' => L2N.CX X.prog X.w (envOfC qg sg s.heap.objs.size g cdg :: X.stack) H1 s1 E e s'') (fun e' s'' => L2N.CX X.prog X.w (envOfC qg sg s.heap.objs.size g cdg :: X.stack) H1 s1 E e' s'') s'
    show codeAny _ _ (.expr body (lamEnv X scope s1.heap.objs.size f c')) _ _
    exact PySem.W.kla_codeExpr (wpAny_mono ((hbody E _ _ s1 H1 (hr.deeper _)).run [] _ _ H1 Q J ht) (fun v s' hq => let ⟨w', H', J', rv, q⟩ := hq; ⟨w', H', J'.os, J'.bare, J'.base, J'.hok, rv, q⟩) fun e s' hq => hq)
  refine wpAny_call (codeAny_mono rc fun r s' hq => ?_)
  cases r with
  | error e => exact tk e s' (L2N.XE.of_call I1 (fun cls d H' h => hW cls d H' h) hq)
  | ok fl =>
    cases fl with
    | ret u => exact I1.after hq
    | next => exact False.elim hq
    | brk => exact False.elim hq
    | cont => exact False.elim hq
end
/-- a lambda's state: data alone is seen -/
theorem Ok.shut {c : Ctx} {G : Gh} {σ : L2.St} {H : Hp} {e : En} (ok : Ok c G σ H e) : Ok ⟨c.toGd, Zm c G, H, fun _ => False, c.cl, []⟩ ⟨List.replicate σ.length none, G.O, []⟩ σ H e.shut := by
  have zz : ∀ b, Zm ⟨c.toGd, Zm c G, H, fun _ => False, c.cl, []⟩ ⟨List.replicate σ.length none, G.O, []⟩ b → Zm c G b := fun b z => by
    rcases z with z | z | ⟨xs, z⟩
    · exact z
    · cases List.eq_of_mem_replicate z
    · cases z
  have nM : ∀ (i : Nat) a, (List.replicate σ.length none : List (Option Addr))[i]? ≠ some (some a) := fun i a h => by
    rw [List.getElem?_replicate] at h; split at h <;> cases h
  refine ⟨by simpa [En.shut] using ok.len, by simp, fun i s q => ?_, fun i j a h => (nM i a h).elim, ⟨fun b o h _ _ => h, ok.fr.2⟩, fun b z => ok.zl b (zz b z), fun i a h => (nM i a h).elim, fun i ds a _ h => (nM i a h).elim, fun p hp => (by cases hp), fun a h => (by cases h), fun n k fs q => (by simp [En.shut] at q)⟩
  have q : (e.sl.map fun s => match s with | .val d => Slot.val d | _ => .no)[i]? = some s := q
  rw [List.getElem?_map] at q
  cases q0 : e.sl[i]? with
  | none => rw [q0] at q; cases q
  | some s0 =>
    rw [q0] at q
    obtain ⟨m, x, h1, h2, h3⟩ := ok.slot i s0 q0
    have hi : i < σ.length := (List.getElem?_eq_some_iff.mp h2).1
    have hr : (List.replicate σ.length none : List (Option Addr))[i]? = some none := by rw [List.getElem?_replicate, if_pos hi]
    cases s0 with
    | val d =>
      cases q
      obtain ⟨_, v, e1, r⟩ := h3
      exact ⟨none, x, hr, h2, rfl, v, e1, Rep.keep (W := c.wd G) (W' := Ctx.wd ⟨c.toGd, Zm c G, H, fun _ => False, c.cl, []⟩ ⟨List.replicate σ.length none, G.O, []⟩) rfl (fun b z => .inl (zz b z)) (fun _ _ h => h) ok.zl (.refl _ _) r⟩
    | no => cases q; exact ⟨none, x, hr, h2, rfl⟩
    | own ds => cases q; exact ⟨none, x, hr, h2, rfl⟩
    | bag ds => cases q; exact ⟨none, x, hr, h2, rfl⟩
end DV
set_option Elab.async false
set_option linter.all false
set_option maxRecDepth 100000
set_option maxHeartbeats 4000000
/-! try: call() / except StreamError as e: return named(e) / return ''. -/
namespace DV
open PySem PySem.Spec PyProof.Rows L2 HotX L2H LamX

/-- the words for an error of the class named m -/
abbrev Txts := List (Str × List Bool)
def txtOf (ts : Txts) (m : Str) : Option Str := (ts.lookup m).map errText
/-- what such a def answers -/
def gErr (ts : Txts) : Out D → Out D
  | .ok _ => .ok (.str "")
  | .err m => (match txtOf ts m with
    | some t => .ok (.str t)
    | none => .bad)
  | .bad => .bad
/-- the def that tells the words, in the heap as the module left it -/
structure NamedF (gd : Gd) (k : Nat) (x : Str) (ts : Txts) : Prop where
  ex : ∃ (f : Addr) (qual : Str) (params : Arguments) (body : List Stmt) (scope : Scope) (dV kV doc pm cdv ct oc : Value) (an od : Option Addr) (osl : Array (Option Value)) (N ps : List Str),
    gd.mg x = some (.ref f) ∧ PySem.W.keepIn gd.K (.ref f) = true ∧ gd.K.lookup f = some ⟨oc, od, .func (PySem.W.fnOf x qual params body scope dV kV doc pm an cdv ct), osl⟩ ∧ PySem.W.codeIn gd.K cdv qual = true ∧ FnScope N ps scope ∧ ps.length = 1 ∧ L2.Binds gd.K (PySem.W.fnOf x qual params body scope dV kV doc pm an cdv ct) ps [] ∧
      ∀ m bits, ts.lookup m = some bits → ∀ C, gd.mg m = some (.ref C) → ∀ (A : Around) (outer : List Env) (s : Shared) (H : Hp) (Q : VK) (E : XK) (a : Addr) (oe : Obj), Hot1 A (a, oe) → Zc (.ref C) none oe → (∃ vs, oe.data = .fields vs) → (∀ H', Same H H' → Q (.str (errText bits)) H') →
        ∃ t, PSs (cxH (L2N.CX gd.prog gd.w) gd.prog gd.w gd.K gd.mg gd.base N qual scope f cdv A outer s H E (a, oe)) body t ∧ t { nx := fun _ H' => Q .non H', rt := Q } (L2.start N [.ref a]) H
/-- the def that calls its lambda -/
structure ErrF (gd : Gd) (x : Str) (nx : Str) (ts : Txts) : Prop where
  ex : ∃ (g : Addr) (pg : Arguments) (sg : Scope) (dV kV doc pm cdv ct oc : Value) (an od : Option Addr) (osl : Array (Option Value)) (a e se : Str) (CS : Addr) (p1 p2 p3 p4 p5 p6 p7 p8 p9 p10 p11 p12 : Pos) (j : Nat),
    gd.mg x = some (.ref g) ∧ PySem.W.keepIn gd.K (.ref g) = true ∧ gd.K.lookup g = some ⟨oc, od, .func (PySem.W.fnOf x x pg [.Try [.Expr (.Call (.Name a p1) [] [] p2) p3] [.ExceptHandler (some (.Name se p4)) (some e) [.Return (some (.Call (.Name nx p5) [.Name e p6] [] p7)) p8] p9] [] [] p10, .Return (some (.Constant (.str "") j p11)) p12] sg dV kV doc pm an cdv ct), osl⟩ ∧
      PySem.W.codeIn gd.K cdv x = true ∧ L2.Binds gd.K (PySem.W.fnOf x x pg [.Try [.Expr (.Call (.Name a p1) [] [] p2) p3] [.ExceptHandler (some (.Name se p4)) (some e) [.Return (some (.Call (.Name nx p5) [.Name e p6] [] p7)) p8] p9] [] [] p10, .Return (some (.Constant (.str "") j p11)) p12] sg dV kV doc pm an cdv ct) [a] [] ∧
      FnScope [a, e] [a] sg ∧ sg.names.lookup a = some .local ∧ sg.names.lookup e = some .local ∧ sg.names.lookup se = some .globalImplicit ∧ sg.names.lookup nx = some .globalImplicit ∧ gd.mg se = some (.ref CS) ∧
      (∀ z ∈ [a, e], (z == ("__debug__" : Str)) = false ∧ (z == ("__classdict__" : Str)) = false) ∧ (se == ("__debug__" : Str)) = false ∧ (nx == ("__debug__" : Str)) = false ∧
      ∀ m bits, ts.lookup m = some bits → ∀ C, gd.mg m = some (.ref C) → PySem.W.exmOne gd.K (.ref C) (.ref CS) = some true
theorem lam_at' {X : Cx} {c c' : Ctx} {N : List Str} {b : Bl} {k : Nat} {Wx : WX} (a : At X c N b k Wx) (hc : c'.toGd = c.toGd) {A : Around} {outer : List Env} {s0 : Shared} {H : Hp} {E : XK} {s : Scope} {f cc : Addr} (L : LamS X.env.scope s) {k' : Nat} (hr : Room k' (A.deeper (lamEnv X s s0.heap.objs.size f cc))) :
    At (lamX X A outer s0 H E s f cc) c' N ⟨s, some s, false⟩ k' (fun cls d _ H => E cls d H) where
  hN := a.hN
  nd := a.nd
  db := a.db
  sc := rfl
  kind := L.kind
  fn := fun x h => by
    have h : (s.names.lookup x == some NameKind.cell) = true := h
    have h : s.names.lookup x = some .cell := by simpa using h
    exact absurd rfl (L.own _ (PySem.mem_of_lookup h)).2
  hK := by rw [hc]; exact a.hK
  hmg := by rw [hc]; exact a.hmg
  hP := by rw [hc]; exact a.hP
  hw := by rw [hc]; exact a.hw
  hB := by rw [hc]; exact a.hB
  calm := rfl
  room := hr
  tk := L2N.takes_of rfl rfl rfl rfl
  free := a.free
  lam := fun z => Bool.noConfusion (show false = true from z)
end DV
set_option Elab.async false
set_option linter.all false
set_option maxRecDepth 100000
set_option maxHeartbeats 4000000
/-! .. the rule. -/
namespace DV
open PySem PySem.Spec PyProof.Rows L2 HotX L2H LamX

theorem lamok_err {k : Nat} {gd : Gd} {x nx : Str} {ts : Txts} (hk2 : 2 ≤ k) (nf : NamedF gd k nx ts) (ef : ErrF gd x nx ts) : LamOk k gd x (gErr ts) := by
  intro c X N b Wx hc at_ hlm body s p lp pos f hg hdb L hbody
  subst hc
  obtain ⟨g, pg, sg, dV, kV, doc, pm, cdv, ct, oc, an, od, osl, a, e, se, CS, p1, p2, p3, p4, p5, p6, p7, p8, p9, p10, p11, p12, j, gx, gk, glk, gcd, gb, S, la, le, lse, lnx, gse, hdbs, sdb, ndb, hexm⟩ := ef.ex
  obtain ⟨fn, nq, npar, nbody, nsc, ndV, nkV, ndoc, npm, ncdv, nct, noc, nan, nod, nosl, nN, nps, ngx, ngk, nglk, ngcd, nS, nlen, ngb, nbd⟩ := nf.ex
  obtain ⟨cc, P, hcode, TB, hmT, hu⟩ := at_.lam hlm
  have hK := at_.hK
  refine ⟨fun pins st σ H Q I ⟨G, e0, ok, post⟩ => ?_⟩
  dsimp only at post
  refine wpAny_Call_Name_kw (ld_glob I hg (by rw [at_.hmg]; exact gx) ?_ hdb)
  refine PySem.W.callWith_K (h₀ := X.base) I.ok.mod.kin (by rw [hK]; exact gk) ?_ (by rfl) (by rfl)
  show wpAny _ _ (spliced ((false, eval (.Lambda ⟨[], [], none, [], [], none, []⟩ body s lp) X.env) :: backTo pos (starEach [] X.env))) _ _ st
  refine Calls.spliced_cons (lam_make2 I TB hcode hmT hu ok.fr.2 rfl (L.has I.ok) fun f0 c0 pm' ctv' H1 s1 I1 eN T1 hf hfn hfr hco => Calls.spliced_nil ⟨I1.kIn, ?_⟩)
  have xt : Ext H H1 := fun b o h n => eN b o h fun ps z => n (by rw [z]; trivial)
  have ok1 : Ok c G σ H1 e0 := ok.ext xt T1
  let c1 : Ctx := ⟨c.toGd, Zm c G, H1, fun _ => False, c.cl, []⟩
  have okS := ok1.shut
  -- what the answer gives
  have ans : ∀ {t : Str} {H' H'' : Hp}, gErr ts ((f e0.shut).map (·.1)) = .ok (.str t) → Fr c1 H' → Same H' H'' → Q (.str t) H'' := fun {t H' H''} hgr fr sm => by
    rw [hgr] at post
    have x1 : Ext H1 H' := fun b o h n => fr.1 b o h n fun z => z
    have tt : LamX.Tabs c.T H'' := fr.2.ext sm
    exact post (.str t) H'' G (.of_ext ((xt.trans x1).trans (.of sm))) (ok.ext ((xt.trans x1).trans (.of sm)) tt) (.str t)
  have hr : Room ((k - 1) + 1) X.A := by rw [show k - 1 + 1 = k by omega]; exact at_.room
  have rc : codeAny (model X.prog X.w) X.A (.call (.ref g) ⟨[.ref f0], []⟩) (CR (L2N.CX X.prog X.w) X.stack X.prog X.w H1 s1 Q (fun _ _ _ => False)) s1 := by
    refine LamX.run_ofS (N := [a, e]) (ps := [a]) (us := [.ref f0]) (vs := [.ref f0]) (by rw [hK]; exact glk) (by rw [hK]; exact gcd) S hr I1.env0 ((by rw [hK]; exact gb : L2.Binds X.K _ [a] []) s1 [.ref f0] I1.kIn rfl) (.cons rfl .nil) rfl fun hr' => ?_
    have hr2 : Room ((k - 2) + 1) (X.A.deeper (envOfC x sg s1.heap.objs.size g cdv)) := by rw [show k - 2 + 1 = k - 1 by omega]; exact hr'
    have da := hdbs a (by simp)
    have de := hdbs e (by simp)
    let tb : WX → TS := fun W D σZ HZ => σZ[0]? = some (some (.ref f0)) ∧ HZ c0 = some (CodeO c0 (X.env.qual ++ "<lambda>")) ∧ ∃ E : XK, (∀ cls d H', E cls d H' → W cls d σZ H') ∧ tV c1 (fun cls d _ H => E cls d H) f σ HZ fun _ H' => D.nx σZ H'
    let tsu : Addr → Value → Option Addr → TS := fun a0 cls d D σZ HZ => σZ[1]? = some (some (.ref a0)) ∧ ∃ m bits C, ts.lookup m = some bits ∧ c.mg m = some (.ref C) ∧ cls = .ref C ∧ d = none ∧ ∀ H', Same HZ H' → D.rt (.str (errText bits)) H'
    have ptry := L2N.ps_try_as (X := cxOf (L2N.CX X.prog X.w) X.prog X.w X.K X.mg X.base [a, e] x sg g cdv X.A X.stack s1 H1 (fun _ _ _ => False)) (x := se) (n := e) (c := .ref CS) (i := 1) (np := p4) (pos' := p9) (pos := p10)
      (body := [.Expr (.Call (.Name a p1) [] [] p2) p3]) (b₀ := .Return (some (.Call (.Name nx p5) [.Name e p6] [] p7)) p8) (suite := []) (tb := tb) (ts := tsu) (Wout := fun _ _ _ _ => False)
      rfl rfl S.nd rfl le ⟨lse, sdb, .inl (by show X.mg se = _; rw [at_.hmg]; exact gse)⟩ takes0N
      (fun W pn xe tk _ => pss_one (PS.imp (ps_expr (pe_actN I1 L hf hfn hfr rfl tk hr2 (tb := fun E => tV c1 (fun cls d _ H => E cls d H) f) (fun E A outer s' H' r => hbody c1 _ _ rfl (lam_at' (c := c) (c' := c1) at_ rfl L r)) rfl (.inl la) da.1 da.2) rfl) fun D σZ HZ h => h))
      (fun a0 oe cls d pn zn hfd => pss_one ⟨fun pins' s' σ' H' D I' ⟨h1, m, bits, C, hl, hm, ec, ed, hq⟩ => by
        subst ec ed
        obtain ⟨vs, hv⟩ := hfd
        have pcall := pe_callE (X := cxOf (L2N.CX X.prog X.w) X.prog X.w X.K X.mg X.base [a, e] x sg g cdv X.A X.stack s1 H1 (fun _ _ _ => False)) (k := k - 2) (f := fn) (x := nx) (e := e) (qual := nq) (params := npar) (body := nbody) (scope := nsc) (dV := ndV) (kV := nkV) (doc := ndoc) (pm := npm) (cdv := ncdv) (ct := nct) (oc := noc) (an := nan) (od := nod) (osl := nosl) (N := nN) (ps := nps) (p := p5) (p2 := p6) (pos := p7) (i := 1) (a := a0) (oe := oe) (pn := pn) (txt := errText bits)
          (by show X.K.lookup fn = _; rw [hK]; exact nglk) (by show PySem.W.codeIn X.K ncdv nq = true; rw [hK]; exact ngcd) nS nlen (by show L2.Binds X.K _ nps []; rw [hK]; exact ngb) hr2 ⟨rfl, vs, hv, zn.2.2 vs hv⟩ lnx (by show X.mg nx = _; rw [at_.hmg]; exact ngx) (by show PySem.W.keepIn X.K _ = true; rw [hK]; exact ngk) ndb
          (pe_var rfl (.inl le) de.1 de.2) (fun A outer s H Q' E hot hq' => by
            show ∃ t, PSs (cxH (L2N.CX X.prog X.w) X.prog X.w X.K X.mg X.base nN nq nsc fn ncdv A outer s H E (a0, oe)) nbody t ∧ _
            rw [at_.hP, at_.hw, hK, at_.hmg, at_.hB]
            exact nbd m bits hl C hm A outer s H Q' E a0 oe hot zn.zc ⟨vs, hv⟩ hq')
        exact (ps_ret pcall).run pins' s' σ' H' D I' ⟨h1, hq⟩⟩)
    refine ⟨_, pss_cons ptry (pss_one (ps_ret pe_str)), rfl, hco, fun cls d H' => ∃ m bits C, ts.lookup m = some bits ∧ c.mg m = some (.ref C) ∧ cls = .ref C ∧ d = none ∧ f e0.shut = .err m ∧ Fr c1 H', fun cls d H' ⟨m, bits, C, h1, h2, h3, h4, h5, h6⟩ => ?_, _, _, okS, ?_⟩
    · subst h3 h4
      refine ⟨true, by show PySem.W.exmOne X.K _ _ = _; rw [hK]; exact hexm m bits h1 C h2, fun _ a0 _ => ⟨rfl, m, bits, C, h1, h2, rfl, rfl, fun H'' sm => ans ?_ h6 sm⟩, fun z => nomatch z⟩
      rw [h5]
      show (match txtOf ts m with | some t => Out.ok (PyData.str t) | none => .bad) = _
      unfold txtOf
      rw [h1]; rfl
    · cases hq : f e0.shut with
      | ok r =>
        obtain ⟨d, e1⟩ := r
        exact fun v H' G' st ok' rr => ans (by rw [hq]; rfl) ok'.fr (.refl H')
      | err m =>
        cases hl : ts.lookup m with
        | none =>
          exfalso
          rw [hq] at post
          have z : txtOf ts m = none := by unfold txtOf; rw [hl]; rfl
          have : gErr ts ((Out.err m : Out (D × En)).map (·.1)) = .bad := by
            show (match txtOf ts m with | some t => Out.ok (PyData.str t) | none => .bad) = _
            rw [z]
          rw [this] at post
          exact post
        | some bits => exact fun C H' hm fr => ⟨m, bits, C, hl, hm, rfl, rfl, rfl, fr⟩
      | bad =>
        rw [hq] at post
        exact post
  refine wpAny_call (codeAny_mono rc fun r s2 hq => ?_)
  cases r with
  | error er =>
    obtain ⟨_, _, _, _, _, _, _, _, _, _, _, _, z⟩ := hq
    exact z.elim
  | ok fl =>
    cases fl with
    | ret u => exact I1.after hq
    | next => exact False.elim hq
    | brk => exact False.elim hq
    | cont => exact False.elim hq
end DV
set_option Elab.async false
set_option linter.all false
set_option maxRecDepth 100000
set_option maxHeartbeats 4000000
/-! From what the head tells to calls as promised; the law's own call. -/
namespace DV
open PySem PySem.Spec PyProof.Rows L2

/-- the module as the head left it -/
structure Md (fa : List He.Fa) (fn : List He.DefD) (gd : Gd) : Prop where
  c : He.SaysD fa fn gd.K
  X : gd.K.In gd.base
  G : gd.base.Ns mainGlobals gd.mg
  free : ∀ x ∈ builtinNames, gd.mg x = none
section
variable {fa : List He.Fa} {fn : List He.DefD} {gd : Gd}
theorem Md.glo (m : Md fa fn gd) {x : Str} (h : He.Fa.glo x ∈ fa) : gd.mg x = some (.ref (He.ga gd.K x)) := He.glo_ok m.X m.G (m.c.facts h)
theorem Md.exc (m : Md fa fn gd) {x : Str} (h : He.Fa.glo x ∈ fa) (h2 : He.Fa.exc x ∈ fa) : ExOk gd x := by
  obtain ⟨a, b, c, d⟩ := He.exc_ok (m.c.facts h2)
  exact ⟨_, m.glo h, a, b, c, d⟩
theorem Md.int (m : Md fa fn gd) {x : Str} {i : Int} (h : He.Fa.int x i ∈ fa) : GbOk gd x (.int i) := by
  obtain ⟨t, e⟩ := He.int_ok m.X m.G (m.c.facts h)
  exact ⟨_, .int i, e, ⟨t, rfl⟩, fun W H _ => .int i⟩
/-- a def of the text: where it is, its names, its small text -/
structure Df (fa : List He.Fa) (fn : List He.DefD) (x : Str) (d : He.DefD) (N : List Str) (g : Fn) : Prop where
  mem : d ∈ fn
  at_ : d.at_ = (x, none)
  glo : He.Fa.glo x ∈ fa
  d0 : d.dfl = []
  k0 : d.kwd = []
  S : FnScope N g.ps d.scope
  bind : ∀ (kV doc pm : Value) (an : Option Addr) (cdv ct : Value) (us : List Value), us.length = g.ps.length → bindArgs (PySem.W.fnOf d.name d.qual d.params d.body d.scope .none kV doc pm an cdv ct) ⟨us, []⟩ = pure (g.ps.zip us)
theorem Md.fd (m : Md fa fn gd) {x : Str} {d : He.DefD} {N : List Str} {g : Fn} (D : Df fa fn x d N g) :
    ∃ fd, FunD gd.K d.name d.qual d.params d.body d.scope [] [] (He.ga gd.K x) fd ∧ L2.Binds gd.K fd g.ps [] := by
  obtain ⟨fd, F⟩ := m.c.defs D.mem
  have e1 : d.dvs gd.K = [] := by unfold He.DefD.dvs; rw [D.d0]; rfl
  have e2 : d.kws gd.K = [] := by unfold He.DefD.kws; rw [D.k0]; rfl
  rw [e1, e2] at F
  have e3 : He.fAd gd.K d.at_ = He.ga gd.K x := by rw [D.at_]; rfl
  rw [e3] at F
  exact ⟨fd, F, F.bindsN D.bind⟩
theorem Md.keep (m : Md fa fn gd) {x : Str} {d : He.DefD} {N : List Str} {g : Fn} (D : Df fa fn x d N g) : PySem.W.keepIn gd.K (.ref (He.ga gd.K x)) = true := by
  obtain ⟨fd, F, _⟩ := m.fd D
  exact F.kp
/-- calls: of a def whose value is data, a new list, of one that changes its list -/
theorem Md.call (m : Md fa fn gd) {x : Str} {d : He.DefD} {N : List Str} {g : Fn} {k : Nat} (D : Df fa fn x d N g) (hb : bodyB false N d.scope d.body g = true) (hok : okS k gd g.body) : CallC gd (k + 1) x (spD gd.K gd.mg gd.T g.run) := by
  obtain ⟨fd, F, B⟩ := m.fd D
  exact ⟨_, fd, g.ps, fn_ok (lm := false) (base := gd.base) F D.S (bd_of hb) hok m.free (fun z => Bool.noConfusion z), m.glo D.glo, F.kp, B⟩
theorem Md.callF (m : Md fa fn gd) {x : Str} {d : He.DefD} {N : List Str} {g : Fn} {k : Nat} (D : Df fa fn x d N g) (hb : bodyB false N d.scope d.body g = true) (hok : okS k gd g.body) : CallC gd (k + 1) x (spF gd.K gd.mg gd.T g.runF) := by
  obtain ⟨fd, F, B⟩ := m.fd D
  exact ⟨_, fd, g.ps, fnF_ok (lm := false) (base := gd.base) F D.S (bd_of hb) hok m.free (fun z => Bool.noConfusion z), m.glo D.glo, F.kp, B⟩
theorem Md.callB (m : Md fa fn gd) {x : Str} {d : He.DefD} {N : List Str} {g : Fn} {k : Nat} (D : Df fa fn x d N g) (hb : bodyB false N d.scope d.body g = true) (hok : okS k gd g.body) : CallC gd (k + 1) x (spB gd.K gd.mg gd.T g.runB) := by
  obtain ⟨fd, F, B⟩ := m.fd D
  exact ⟨_, fd, g.ps, fnB_ok (lm := false) (base := gd.base) F D.S (bd_of hb) hok m.free (fun z => Bool.noConfusion z), m.glo D.glo, F.kp, B⟩
theorem Md.callL (m : Md fa fn gd) {x : Str} {d : He.DefD} {N : List Str} {g : Fn} {k : Nat} (D : Df fa fn x d N g) (hb : bodyB true N d.scope d.body g = true) (hok : okS k gd g.body) (hl : ∀ fd, FunD gd.K d.name d.qual d.params d.body d.scope [] [] (He.ga gd.K x) fd → LamI gd.base gd.mg gd.T fd.code (d.qual ++ ".<locals>.")) : CallC gd (k + 1) x (spD gd.K gd.mg gd.T g.run) := by
  obtain ⟨fd, F, B⟩ := m.fd D
  exact ⟨_, fd, g.ps, fn_ok (lm := true) (base := gd.base) F D.S (bd_of hb) hok m.free (fun _ => hl fd F), m.glo D.glo, F.kp, B⟩
end
/-- the tables of the defs that make lambdas -/
def tabT (K : PySem.W.Frag) (tf : List Str) : List (Addr × Str) := tf.map fun x => ((He.cT K (x, none)).2, x ++ ".<locals>." ++ "<lambda>")
def tabD (K : PySem.W.Frag) (tf : List Str) : Bool := tf.all fun x => tf.all fun y => decide (x = y) || !decide ((He.cT K (x, none)).2 = (He.cT K (y, none)).2)
theorem lamI_of {K : PySem.W.Frag} {base : Heap} {mg : Str → Option Value} {tf : List Str} {x qual : Str} {params : Arguments} {body : List Stmt} {scope : Scope} {fd : FuncData} (hx : x ∈ tf) (hd : tabD K tf = true)
    (hT : ∀ x ∈ tf, LamX.TabB base mg (He.cT K (x, none)).1 (He.cT K (x, none)).2) (F : FunD K x qual params body scope [] [] (He.ga K x) fd) : LamI base mg (tabT K tf) fd.code (x ++ ".<locals>.") := by
  obtain ⟨oc, od, dV, kV, doc, pm, an, cdv, ct, osl, rfl, lk, hcd, _, _⟩ := F.ex
  obtain ⟨c, ec⟩ := He.codeIn_ref hcd
  have e1 : He.codeOf K (x, none) = c := He.codeOf_eq (p := (x, none)) lk ec
  have t := hT x hx
  refine ⟨c, (He.cT K (x, none)).2, ec, ?_, List.mem_map.mpr ⟨x, hx, rfl⟩, fun p hp e => ?_⟩
  · have : (He.cT K (x, none)).1 = c := e1
    rw [this] at t; exact t
  · obtain ⟨y, hy, rfl⟩ := List.mem_map.mp hp
    have h := List.all_eq_true.mp (List.all_eq_true.mp hd y hy) x hx
    rcases Bool.or_eq_true_iff.mp h with h | h
    · rw [of_decide_eq_true h]
    · rw [Bool.not_eq_true', decide_eq_false_iff_not] at h
      exact absurd e h
theorem tabs_start {K : PySem.W.Frag} {tf : List Str} {H : Hp} (h : ∀ x ∈ tf, H (He.cT K (x, none)).2 = some (.tbl #[])) : LamX.Tabs (tabT K tf) H := fun p hp => by
  obtain ⟨x, hx, rfl⟩ := List.mem_map.mp hp
  exact ⟨#[], h x hx, trivial, fun pos cv hc => by cases hc⟩
/-- a def that makes lambdas, as called -/
theorem Md.callM {fa : List He.Fa} {fn : List He.DefD} {gd : Gd} (m : Md fa fn gd) {tf : List Str} (hT : gd.T = tabT gd.K tf) (hd : tabD gd.K tf = true) (tb : ∀ x ∈ tf, LamX.TabB gd.base gd.mg (He.cT gd.K (x, none)).1 (He.cT gd.K (x, none)).2) {x : Str} {d : He.DefD} {N : List Str} {g : Fn} {k : Nat}
    (D : Df fa fn x d N g) (hx : x ∈ tf) (hq : d.qual = x) (hb : bodyB true N d.scope d.body g = true) (hok : okS k gd g.body) (hn : d.name = x) : CallC gd (k + 1) x (spD gd.K gd.mg gd.T g.run) :=
  m.callL D hb hok fun fd F => by
    rw [hq, hn] at F
    rw [hT, hq]
    exact lamI_of hx hd tb F
/-- the law's call, from the call of its def -/
theorem law_at {l : PySem.W.OpenLaw} {w : World} {fa : List He.Fa} {fn : List He.DefD} {ex : PySem.W.Frag → Bool} {tf : List Str} {K : PySem.W.Frag} {h : Heap} {mg : Str → Option Value} {a : Addr} {n k : Nat} {x : Str} {d : He.DefD} {N : List Str} {g : Fn} {f : Addr}
    (KX : K.In h) (hn : n ≤ 64) (S : He.SaysX fa fn [] (tf.map fun x => (x, none)) ex w h K) (G : h.Ns mainGlobals mg) (hx : mg x = some (.ref f)) (D : Df fa fn x d N g) (hps : g.ps = [a']) (hfree : ∀ x ∈ builtinNames, He.Fa.free x ∈ fa)
    (plain : ∀ ns : List Int, ns.length ≤ 64 → (∀ z ∈ ns, Builtin.Int.intBits z ≤ 1048576) → g.run [scr (ns.map .int)] = .ok (.bool true))
    {lm : Bool} (hl : lm = true → x ∈ tf) (hdT : tabD K tf = true) (hq : d.qual = x) (hnm : d.name = x) (hb : bodyB lm N d.scope d.body g = true)
    (F : ∀ gd : Gd, gd.prog = l.prog → gd.K = K → gd.mg = mg → gd.T = tabT K tf → Md fa fn gd → (∀ x ∈ tf, LamX.TabB gd.base mg (He.cT K (x, none)).1 (He.cT K (x, none)).2) → okS k gd g.body) :
    LamX.LawAtS l w K (L2N.CX l.prog w) (k + 1) n a' mg f h := by
  have md : ∀ base : Heap, K.In base → base.Ns mainGlobals mg → Md fa fn ⟨l.prog, w, base, K, mg, tabT K tf⟩ := fun base hK hG => ⟨S.t.d, hK, hG, fun z hz => He.free_ok hK hG (S.t.d.facts (hfree z hz))⟩
  obtain ⟨fd, FD, B⟩ := (md h KX G).fd D
  have ef : f = He.ga K x := by
    have := (md h KX G).glo D.glo
    rw [show (Gd.mg ⟨l.prog, w, h, K, mg, tabT K tf⟩) = mg from rfl, hx] at this
    cases this; rfl
  subst ef
  refine ⟨fd, tf.map fun x => He.cT K (x, none), spLaw K (tabT K tf), fun p hp => ?_, fun p hp => ?_, fun p hp => ?_, fun s u => ?_, fun H ad ns hl hbits hT hS => ?_, fun base hK hG hT => ?_⟩
  · obtain ⟨y, hy, rfl⟩ := List.mem_map.mp hp
    exact S.empty (y, none) (List.mem_map.mpr ⟨y, hy, rfl⟩)
  · obtain ⟨y, hy, rfl⟩ := List.mem_map.mp hp
    exact S.out (y, none) (List.mem_map.mpr ⟨y, hy, rfl⟩)
  · obtain ⟨y, hy, rfl⟩ := List.mem_map.mp hp
    exact PySem.W.codeHd_of_K KX (S.hd (y, none) (List.mem_map.mpr ⟨y, hy, rfl⟩))
  · have b := FunD.bindsA (ps := [a']) FD fun kV doc pm an cdv ct us hl => by rw [← hps]; exact D.bind kV doc pm an cdv ct us (by rw [hps]; exact hl)
    exact b s [u] rfl
  · exact ⟨ad, ns, rfl, Nat.le_trans hl hn, hbits, hS, tabs_start fun y hy => hT _ (List.mem_map.mpr ⟨y, hy, rfl⟩), fun _ => rfl⟩
  · have hT' : ∀ x ∈ tf, LamX.TabB base mg (He.cT K (x, none)).1 (He.cT K (x, none)).2 := fun y hy => hT _ (List.mem_map.mpr ⟨y, hy, rfl⟩)
    have m := md base hK hG
    have ok := F ⟨l.prog, w, base, K, mg, tabT K tf⟩ rfl rfl rfl rfl m hT'
    rw [← hps]
    refine (fn_ok (lm := lm) (P := l.prog) (w := w) (base := base) (T := tabT K tf) FD D.S (bd_of hb) ok m.free fun z => ?_).imp fun vs H Q E q => sp_law plain vs H Q E q
    rw [hq, hnm] at FD
    rw [hq]
    exact lamI_of (hl z) hdT hT' FD
end DV
set_option Elab.async false
set_option linter.all false
set_option maxRecDepth 100000
set_option maxHeartbeats 4000000
/-! The two defs that tell errors, by what the head tells. -/
namespace DV
open PySem PySem.Spec PyProof.Rows L2 HotX L2H

def faB (f : He.Fa) : List He.Fa → Bool
  | [] => false
  | g :: r => (match f, g with
    | .glo x, .glo y => decide (x = y)
    | .free x, .free y => decide (x = y)
    | .exc x, .exc y => decide (x = y)
    | .int x i, .int y j => decide (x = y) && decide (i = j)
    | .exm x y a, .exm z u b => decide (x = z) && decide (y = u) && decide (a = b)
    | _, _ => false) || faB f r
theorem fa_mem {f : He.Fa} : ∀ {l : List He.Fa}, faB f l = true → f ∈ l
  | [], h => by cases h
  | g :: r, h => by
    unfold faB at h
    rcases Bool.or_eq_true_iff.mp h with h | h
    · split at h <;> try simp only [Bool.and_eq_true, decide_eq_true_eq] at h
      · subst h; exact List.mem_cons_self
      · subst h; exact List.mem_cons_self
      · subst h; exact List.mem_cons_self
      · obtain ⟨rfl, rfl⟩ := h; exact List.mem_cons_self
      · obtain ⟨⟨rfl, rfl⟩, rfl⟩ := h; exact List.mem_cons_self
      · cases h
    · exact List.mem_cons_of_mem _ (fa_mem h)
def errNames : List Str := ["InvalidBoat", "InvalidPlan", "InvalidFlow", "InvalidNumber", "InvalidFacts", "InvalidText", "Unlike", "NoFlow", "NothingToUndo"]
def kitB (K : PySem.W.Frag) (x y : Str) : Bool := decide (PySem.W.kitOne K (.ref (He.ga K x)) (.ref (He.ga K y)) = some (decide (x = y)))
def excB (K : PySem.W.Frag) (x : Str) : Bool := decide (PySem.W.findIn K (.ref (He.ga K x)) "__getattribute__" = some (some (.builtin "BaseException.__getattribute__"))) && decide (PySem.W.findIn K (.ref (He.ga K x)) "__getattr__" = some none)
  && decide (PySem.W.subIn K (.ref (He.ga K x)) (.type "BaseException") = some true) && PySem.W.hasDictIn K (He.ga K x) && decide (PySem.W.findIn K (.ref (He.ga K x)) "__class__" = some (some (.builtin "object.__class__")))
  && decide (PySem.W.specialIn K (.builtin "object.__class__") "__get__" = some (some (.builtin "getset_descriptor.__get__"))) && decide (PySem.W.takesIn K (.builtin "object.__class__") = some true) && decide (PySem.W.mroIn K (He.ga K x) (.type "object") = some true)
  && decide (PySem.W.kitOne K (.ref (He.ga K x)) (.type "ValueError") = some true)
def errB (K : PySem.W.Frag) : Bool := errNames.all fun x => excB K x && errNames.all fun y => kitB K x y
def bitsOf (x : Str) : List Bool := errNames.map (fun y => decide (x = y)) ++ [true]
/-- the words of each class -/
def errTxts : Txts := errNames.map fun x => (x, bitsOf x)
theorem errTxts_of {m : Str} {bits : List Bool} (h : errTxts.lookup m = some bits) : m ∈ errNames ∧ bits = bitsOf m := by
  have e := PySem.mem_of_lookup h
  obtain ⟨x, hx, e⟩ := List.mem_map.mp e
  cases e
  exact ⟨hx, rfl⟩
theorem excC_of {K : PySem.W.Frag} (h : errB K = true) {x : Str} (hx : x ∈ errNames) : ExcC K (He.ga K x) := by
  have h := List.all_eq_true.mp h x hx
  have h := (Bool.and_eq_true_iff.mp h).1
  unfold excB at h
  simp only [Bool.and_eq_true, decide_eq_true_eq] at h
  obtain ⟨⟨⟨⟨⟨⟨⟨⟨h1, h2⟩, h3⟩, h4⟩, h5⟩, h6⟩, h7⟩, h8⟩, h9⟩ := h
  exact ⟨h1, h2, h3, h4, h5, h6, h7, h8⟩
theorem kit_of {K : PySem.W.Frag} (h : errB K = true) {x y : Str} (hx : x ∈ errNames) (hy : y ∈ errNames) : PySem.W.kitOne K (.ref (He.ga K x)) (.ref (He.ga K y)) = some (decide (x = y)) := by
  have h := List.all_eq_true.mp h x hx
  have h := List.all_eq_true.mp (Bool.and_eq_true_iff.mp h).2 y hy
  exact of_decide_eq_true h
theorem kitV_of {K : PySem.W.Frag} (h : errB K = true) {x : Str} (hx : x ∈ errNames) : PySem.W.kitOne K (.ref (He.ga K x)) (.type "ValueError") = some true := by
  have h := List.all_eq_true.mp h x hx
  have h := (Bool.and_eq_true_iff.mp h).1
  unfold excB at h
  simp only [Bool.and_eq_true, decide_eq_true_eq] at h
  exact h.2
section
variable {fa : List He.Fa} {fn : List He.DefD} {gd : Gd}
theorem clsE_of (m : Md fa fn gd) (h : errB gd.K = true) {X : Cx} (hK : X.K = gd.K) (hm : X.mg = gd.mg) {x y : Str} (hx : x ∈ errNames) (hy : y ∈ errNames) (hf : He.Fa.glo y ∈ fa) (hg : Gl X y) (hd : (y == ("__debug__" : Str)) = false) : ClsE X (He.ga gd.K x) y (decide (x = y)) := by
  refine ⟨.ref (He.ga gd.K y), .ref (He.ga gd.K y), fun p => pe_glob hg (by rw [hm]; exact m.glo hf) rfl hd, fun u r => r, ?_⟩
  rw [hK]; exact kit_of h hx hy
theorem clsV_of (h : errB gd.K = true) {X : Cx} (hK : X.K = gd.K) {x : Str} (hx : x ∈ errNames) (hg : Gl X "ValueError") (hm : X.mg "ValueError" = none) : ClsE X (He.ga gd.K x) "ValueError" true := by
  refine ⟨.ty "ValueError", .type "ValueError", fun p => pe_bltn (v := .ty "ValueError") hg hm (by kernel_rfl) rfl, fun u r => r, ?_⟩
  rw [hK]; exact kitV_of h hx
theorem vacB (m : Md fa fn gd) {x : Str} {d : He.DefD} {N : List Str} {g : Fn} {k : Nat} (D : Df fa fn x d N g) : CallC gd k x (spB gd.K gd.mg gd.T fun _ _ => .bad) := by
  obtain ⟨fd, F, B⟩ := m.fd D
  exact ⟨_, fd, g.ps, ⟨fun vs H Q E h => (by obtain ⟨W, a, ws, bg, ds, xs, _, _, _, _, _, _, _, _, h⟩ := h; exact h.elim), fun A outer s H args us vs Q E _ _ _ _ h => (by obtain ⟨W, a, ws, bg, ds, xs, _, _, _, _, _, _, _, _, h⟩ := h; exact h.elim)⟩, m.glo D.glo, F.kp, B⟩
theorem vacF (m : Md fa fn gd) {x : Str} {d : He.DefD} {N : List Str} {g : Fn} {k : Nat} (D : Df fa fn x d N g) : CallC gd k x (spF gd.K gd.mg gd.T fun _ => .bad) := by
  obtain ⟨fd, F, B⟩ := m.fd D
  exact ⟨_, fd, g.ps, ⟨fun vs H Q E h => (by obtain ⟨W, ds, _, _, _, _, h⟩ := h; exact h.elim), fun A outer s H args us vs Q E _ _ _ _ h => (by obtain ⟨W, ds, _, _, _, _, h⟩ := h; exact h.elim)⟩, m.glo D.glo, F.kp, B⟩
theorem vacD (m : Md fa fn gd) {x : Str} {d : He.DefD} {N : List Str} {g : Fn} {k : Nat} (D : Df fa fn x d N g) : CallC gd k x (spD gd.K gd.mg gd.T fun _ => .bad) := by
  obtain ⟨fd, F, B⟩ := m.fd D
  exact ⟨_, fd, g.ps, ⟨fun vs H Q E h => (by obtain ⟨W, ds, _, _, _, _, h⟩ := h; exact h.elim), fun A outer s H args us vs Q E _ _ _ _ h => (by obtain ⟨W, ds, _, _, _, _, h⟩ := h; exact h.elim)⟩, m.glo D.glo, F.kp, B⟩
end
end DV
set_option Elab.async false
set_option linter.all false
set_option maxRecDepth 100000
set_option maxHeartbeats 4000000
/-! set(l), l a list of ints: a set as sorted wants it. -/
namespace DV
open PySem PySem.Spec PyProof.Rows L2
section
variable {P : Program} {w : World} {A : Around} {E : Value → Shared → Prop} {s : Shared}
abbrev set0 (w : World) : Obj := { cls := .type "set", dict := none, data := .set #[] 0 (.fresh 0 0 (!w.params.followText "set-order")) }
abbrev withSet (w : World) (s : Shared) : Shared := { s with heap := s.heap.push (set0 w) }
/-- what the call leaves -/
def SetMade (w : World) (s : Shared) (ns : List Int) (s2 : Shared) : Prop := ∃ h2 tk c, s2 = { s with heap := h2, toks := tk } ∧ SetR w h2 s.heap.objs.size (fun j => decide (j ∈ ns)) c ∧ c ≤ ns.length ∧ ∀ b o, s.heap.get? b = some o → h2.get? b = some o
set_option maxHeartbeats 8000000 in
theorem setL_made {l : Addr} {items : Array Value} (ns : List Int) {Q : Value → Shared → Prop} (quiet : A.handled = none) (hl : s.heap.IsList l items) (are : IntsAre items.toList ns) (small : ns.length + 1 < scanBound)
    (k : ∀ s2, SetMade w s ns s2 → Q (.ref s.heap.objs.size) s2) : wpAny (model P w) A (call (.type "set") [.ref l]) Q E s := by
  have size : items.size = ns.length := by have := are.length; rwa [Array.length_toList] at this
  obtain ⟨_, _, order⟩ := F.called_set.mro
  have z1 := F.called_set.made; have z2 := F.called_set.sub; have z3 := F.called_set.notType; have z4 := F.called_set.canCreate; have z5 := F.typeCall_set_1 (.ref l)
  apply wpAny_call
  apply codeAny_of_tree
  show wpAny _ _ (callAny (.type "set") _) _ _ _
  apply wpAny_pure
  refine And.intro (Code.quiet_builtin _ (by decide +kernel)) ?_
  apply codeAny_builtin F.entry_type_call
  rw [Around.under_plain (weight_type_call_type "set" [.ref l] []) rfl]
  repeat (any_goals (first | assumption | wp_step))
  refine codeAny_mono (code_set_led1 (.ref l) (E := E) (Q₁ := fun r s1 => r = .ref s.heap.objs.size ∧ s1 = withSet w s) ⟨rfl, rfl⟩) fun r s1 got => ?_
  rcases r with e | fl
  · exact got
  rcases fl with _ | _ | _ | u
  iterate 3 exact got.elim
  · skip
    obtain ⟨rfl, rfl⟩ := got
    have at0 : (withSet w s).heap.get? s.heap.objs.size = some (set0 w) := Heap.get?_push_size _ rfl
    have ty : Shared.TypeIs (withSet w s) (.ref s.heap.objs.size) "set" := ⟨_, at0, rfl⟩
    have z6 := F.called_set.init.lookup; have z7 := F.called_set.init.bind (.ref s.heap.objs.size)
    repeat (any_goals (first | assumption | wp_step))
    refine codeAny_mono (codeAny_call_builtin (R := wants (fun r s2 => r = .none ∧ SetMade w s ns s2) E) F.called_set.init.plain F.entry_set_init (check_set_init_1 ty ?_)) fun r2 s2 got2 => ?_
    · obtain ⟨⟨oc, od, odt, osl⟩, lk, c1, m, c2⟩ := hl
      simp only at c1 c2
      subst c1 c2
      have lk1 : (withSet w s).heap.get? l = some ⟨.type "list", od, .seq items m, osl⟩ := Heap.get?_push_of_some _ lk
      have z8 := F.sub_list_set; have z9 := F.sub_list_frozenset
      have z10 : (Value.type "list" == Value.type "dict") = false := by decide
      have li : (withSet w s).heap.IsList l items := ⟨_, lk1, rfl, m, rfl⟩
      unfold Builtin.«set.__init__» noKeywords Builtin.Frozenset.updateFrom
      generalize hp : pyIter = PI
      wp_walk
      subst hp
      refine wpAny_pyIter_list li (wpAny_bind (wpAny_runValue ?_))
      have ll : l < s.heap.objs.size := Heap.lt_size lk
      have q3 : A.in1.in1.in1.handled = none := by simp [quiet]
      have sz : (withSet w s).heap.objs.size = s.heap.objs.size + 1 := Heap.size_push ..
      have n1 : l ≠ (withSet w s).heap.objs.size := by rw [sz]; exact Nat.ne_of_lt (Nat.lt_succ_of_lt ll)
      have n2 : s.heap.objs.size ∉ [(withSet w s).heap.objs.size, l] := by
        rw [sz]
        intro z
        rcases List.mem_cons.mp z with z | z
        · exact Nat.ne_of_lt (Nat.lt_succ_self _) z
        · exact Nat.ne_of_gt ll (List.mem_singleton.mp z)
      refine set_update_ints ((Walks.list q3 _ l n1 items).toS) s.heap.objs.size n2 ns size small (fun i v hv => ?_) (items.size - 0) 0 _ (by omega) (by omega) ⟨⟨_, Heap.get?_push_size _ rfl, rfl, rfl⟩, li.push _⟩ ⟨0, Nat.le_refl 0, setR_new_at (Heap.get?_push_of_some _ at0)⟩ fun s3 c mv hc made => ?_
      · have hi : i < ns.length := by rw [← size]; exact (Array.getElem?_eq_some_iff.mp hv).1
        obtain ⟨t, e⟩ := PyProof.Rows.IntsAre.int_at are i v (by rw [Array.getElem?_toList]; exact hv)
        exact ⟨ns[i], t, List.getElem?_eq_getElem hi, by rw [e, List.getD_eq_getElem?_getD, List.getElem?_eq_getElem hi] <;> rfl⟩
      · obtain ⟨h3, g3, d3, t3, o3⟩ := s3
        obtain rfl : g3 = s.gens := mv.gens
        obtain rfl : d3 = s.drawn := mv.drawn
        obtain rfl : o3 = s.os := mv.os
        apply wpAny_pure
        show wpAny _ _ (ret Value.none) _ _ _
        refine wpAny_pure ⟨rfl, h3, t3, c, rfl, made, by rw [← size]; exact hc, fun b o e => mv.heap b o (fun z => ?_) (Heap.get?_push_of_some _ (Heap.get?_push_of_some _ e))⟩
        have lt := Heap.lt_size e
        rcases List.mem_cons.mp z with z | z
        · exact Nat.ne_of_lt lt z
        · have q := List.mem_singleton.mp z
          rw [sz] at q
          exact Nat.ne_of_lt (Nat.lt_succ_of_lt lt) q
    · rcases r2 with e | fl
      · exact got2
      rcases fl with _ | _ | _ | u
      iterate 3 exact got2.elim
      · skip
        obtain ⟨rfl, made⟩ := got2
        repeat (any_goals (first | assumption | wp_step))
        exact k _ made
end
end DV
set_option Elab.async false
set_option linter.all false
set_option maxRecDepth 100000
set_option maxHeartbeats 4000000
/-! sorted(set(l)), l a list of ints, of pairs of ints from 0 on: a form. -/
namespace DV
open PySem PySem.Spec PyProof.Rows L2

/-! ### sorted, none twice -/
section
variable {t : Type} {lt : t → t → Bool}
def insR (lt : t → t → Bool) (x : t) : List t → List t
  | [] => [x]
  | y :: r => if lt x y = true then x :: y :: r else if lt y x = true then y :: insR lt x r else y :: r
def srtR (lt : t → t → Bool) : List t → List t
  | [] => []
  | x :: r => insR lt x (srtR lt r)
structure Ord (lt : t → t → Bool) : Prop where
  irr : ∀ x, lt x x = false
  tr : ∀ x y z, lt x y = true → lt y z = true → lt x z = true
  tot : ∀ x y, lt x y = false → lt y x = false → x = y
theorem insR_mem (o : Ord lt) (x z : t) : ∀ l, z ∈ insR lt x l ↔ z = x ∨ z ∈ l
  | [] => by simp [insR]
  | y :: r => by
    unfold insR
    split
    · simp
    · split
      · simp [insR_mem o x z r]; grind
      · rename_i h1 h2
        have e := o.tot x y (by simpa using h1) (by simpa using h2)
        subst e; simp
theorem insR_pw (o : Ord lt) (x : t) : ∀ l, l.Pairwise (fun a b => lt a b = true) → (insR lt x l).Pairwise (fun a b => lt a b = true)
  | [], _ => by simp [insR]
  | y :: r, h => by
    obtain ⟨h1, h2⟩ := List.pairwise_cons.mp h
    unfold insR
    split
    · rename_i q
      refine List.pairwise_cons.mpr ⟨fun z hz => ?_, h⟩
      rcases List.mem_cons.mp hz with rfl | hz
      · exact q
      · exact o.tr _ _ _ q (h1 z hz)
    · split
      · rename_i q
        refine List.pairwise_cons.mpr ⟨fun z hz => ?_, insR_pw o x r h2⟩
        rcases (insR_mem o x z r).mp hz with rfl | hz
        · exact q
        · exact h1 z hz
      · exact h
theorem srtR_mem (o : Ord lt) (z : t) : ∀ l, z ∈ srtR lt l ↔ z ∈ l
  | [] => by simp [srtR]
  | x :: r => by simp [srtR, insR_mem o, srtR_mem o z r]
theorem srtR_pw (o : Ord lt) : ∀ l, (srtR lt l).Pairwise (fun a b => lt a b = true)
  | [] => by simp [srtR]
  | x :: r => insR_pw o x _ (srtR_pw o r)
theorem pw_uniq (o : Ord lt) : ∀ k l : List t, k.Pairwise (fun a b => lt a b = true) → l.Pairwise (fun a b => lt a b = true) → (∀ z, z ∈ k ↔ z ∈ l) → k = l
  | [], [], _, _, _ => rfl
  | [], y :: l, _, _, h => absurd ((h y).mpr List.mem_cons_self) (by simp)
  | x :: k, [], _, _, h => absurd ((h x).mp List.mem_cons_self) (by simp)
  | x :: k, y :: l, hk, hl, h => by
    obtain ⟨k1, k2⟩ := List.pairwise_cons.mp hk
    obtain ⟨l1, l2⟩ := List.pairwise_cons.mp hl
    have e : x = y := by
      rcases List.mem_cons.mp ((h x).mp List.mem_cons_self) with e | hx
      · exact e
      · rcases List.mem_cons.mp ((h y).mpr List.mem_cons_self) with e | hy
        · exact e.symm
        · have := o.tr _ _ _ (k1 y hy) (l1 x hx)
          rw [o.irr] at this; cases this
    subst e
    have irr : ∀ z, lt x z = true → z ≠ x := fun z hz e => by rw [e, o.irr] at hz; cases hz
    rw [pw_uniq o k l k2 l2 fun z => ⟨fun hz => by
      rcases List.mem_cons.mp ((h z).mp (List.mem_cons_of_mem _ hz)) with e | q
      · exact absurd e (irr z (k1 z hz))
      · exact q, fun hz => by
      rcases List.mem_cons.mp ((h z).mpr (List.mem_cons_of_mem _ hz)) with e | q
      · exact absurd e (irr z (l1 z hz))
      · exact q⟩]
end
def ltI (x y : Int) : Bool := decide (x < y)
def ltP (x y : Int × Int) : Bool := decide (x.1 < y.1) || (decide (x.1 = y.1) && decide (x.2 < y.2))
theorem ord_I : Ord ltI := ⟨fun x => by simp [ltI], fun x y z a b => by simp [ltI] at a b ⊢; omega, fun x y a b => by simp [ltI] at a b; omega⟩
theorem ord_P : Ord ltP := ⟨fun x => by simp [ltP], fun x y z a b => by simp [ltP] at a b ⊢; omega, fun x y a b => by
  obtain ⟨x1, x2⟩ := x; obtain ⟨y1, y2⟩ := y
  simp [ltP] at a b
  simp only [Prod.mk.injEq]; omega⟩
/-! ### the form -/
def intsD : List D → Option (List Int)
  | [] => some []
  | .int i :: r => (intsD r).map fun l => i :: l
  | _ :: _ => none
def pairsD : List D → Option (List (Int × Int))
  | [] => some []
  | .tuple [.int i, .int j] :: r => (pairsD r).map fun l => (i, j) :: l
  | _ :: _ => none
abbrev pairD (p : Int × Int) : D := .tuple [.int p.1, .int p.2]
def srtD : List D → Out D
  | [.list ds] => if ds.length < 64 then (match intsD ds with
    | some ns => .ok (.list ((srtR ltI ns).map PyData.int))
    | none => (match pairsD ds with
      | some ps => if ps.all (fun p => decide (0 ≤ p.1) && decide (0 ≤ p.2)) = true then .ok (.list ((srtR ltP ps).map pairD)) else .bad
      | none => .bad)) else .bad
  | _ => .bad
theorem intsD_eq : ∀ {ds : List D} {ns : List Int}, intsD ds = some ns → ds = ns.map PyData.int
  | [], ns, h => by cases h; rfl
  | .int i :: r, ns, h => by
    unfold intsD at h
    cases e : intsD r with
    | none => rw [e] at h; cases h
    | some l => rw [e] at h; cases h; rw [intsD_eq e]; rfl
theorem pairsD_eq : ∀ {ds : List D} {ps : List (Int × Int)}, pairsD ds = some ps → ds = ps.map pairD
  | [], ns, h => by cases h; rfl
  | d :: r, ns, h => by
    unfold pairsD at h
    split at h
    · rename_i heq; cases heq
    · rename_i r' i j heq
      cases heq
      cases e : pairsD r with
      | none => rw [e] at h; cases h
      | some l => rw [e] at h; cases h; rw [pairsD_eq e]; rfl
    · cases h
theorem intsD_map : ∀ ns : List Int, intsD (ns.map PyData.int) = some ns
  | [] => rfl
  | n :: ns => by simp [intsD, intsD_map ns]
theorem pairsD_map : ∀ ns : List (Int × Int), pairsD (ns.map pairD) = some ns
  | [] => rfl
  | n :: ns => by simp [pairsD, pairsD_map ns]
/-! the two calls -/
def rSetX (K : PySem.W.Frag) (P : Program) (w : World) : List V → Hp → VK → Prop := fun vs H Q => (∃ (l : Addr) (ns : List Int), vs = [.ref l] ∧ SqL K H l (ns.map V.int) ∧ ns.length < 64 ∧ ∀ a S n, H a = none → (∀ k, S k = true ↔ k ∈ ns) → n < 64 → Q (.ref a) (upd H a (SetO w a S n))) ∨ rSetOfT K P w vs H Q
def rSrtX (K : PySem.W.Frag) (P : Program) (w : World) : List V → Hp → VK → Prop := fun vs H Q => rSortedSet w vs H Q ∨ rSortedT K P w vs H Q
section
variable {X : Cx}
theorem cr_setX (hc : X.calm = true) (hu : X.A.units + 64 < cLine) : CallR X (.type "set") (rSetX X.K X.prog X.w) := by
  intro pins s σ H xs us Q I r h
  rcases h with h | h
  · obtain ⟨l, ns, rfl, hl, hn, q⟩ := h
    rw [Vals.ref1 r]
    obtain ⟨its, rv, pl, hz⟩ := I.list hl
    have fresh : H s.heap.objs.size = none := I.hok.fresh (Nat.le_refl _)
    refine setL_made (P := X.prog) (w := X.w) ns (I.ok.hd hc) pl.isList (by simpa using rv.ints) (by unfold scanBound; omega) fun s2 ⟨h2, tk, c, e, R, hc2, keep⟩ => ?_
    subst e
    exact ⟨.ref s.heap.objs.size, upd H s.heap.objs.size (SetO X.w s.heap.objs.size (fun j => decide (j ∈ ns)) c), I.laid (t' := tk) keep (Nat.le_refl _) (setO_new R), rfl, q _ _ _ fresh (fun k => by simp) (by omega)⟩
  · exact cr_setOfT hc hu pins s σ H xs us Q I r h
theorem cr_srtX (hc : X.calm = true) : CallR X (.builtin "sorted") (rSrtX X.K X.prog X.w) := by
  intro pins s σ H xs us Q I r h
  rcases h with h | h
  · exact cr_sortedSet hc pins s σ H xs us Q I r h
  · exact cr_sortedT hc pins s σ H xs us Q I r h
end
/-- an upper bound -/
def topOf : List (Int × Int) → Int
  | [] => 1
  | p :: r => max (max (p.1 + 1) (p.2 + 1)) (topOf r)
theorem topOf_gt : ∀ (l : List (Int × Int)) p, p ∈ l → p.1 < topOf l ∧ p.2 < topOf l
  | q :: r, p, h => by
    unfold topOf
    rcases List.mem_cons.mp h with rfl | h
    · omega
    · have := topOf_gt r p h
      omega
theorem code2 (B x y : Int) : TS.code B [x, y] = x * B + y := by
  simp [TS.code]
  rw [Int.pow_succ, Int.pow_zero, Int.one_mul]
theorem code_lt {B : Int} {p q : Int × Int} (hp : 0 ≤ p.1 ∧ 0 ≤ p.2) (hq : 0 ≤ q.1 ∧ 0 ≤ q.2) (bp : p.1 < B ∧ p.2 < B) (bq : q.1 < B ∧ q.2 < B) (h : TS.code B [p.1, p.2] ≤ TS.code B [q.1, q.2]) (ne : p ≠ q) : ltP p q = true := by
  rw [code2, code2] at h
  simp only [ltP, Bool.or_eq_true, Bool.and_eq_true, decide_eq_true_eq]
  rcases Int.lt_trichotomy p.1 q.1 with c | c | c
  · exact .inl c
  · refine .inr ⟨c, ?_⟩
    rw [c] at h
    have : p.2 ≠ q.2 := fun z => ne (Prod.ext c z)
    omega
  · have h1 : (q.1 + 1) * B ≤ p.1 * B := Int.mul_le_mul_of_nonneg_right (by omega) (by omega)
    rw [Int.add_mul, Int.one_mul] at h1
    omega
theorem reps_int_inv {W : Wd} {H : Hp} : ∀ {xs : List V} {ns : List Int}, Reps W H xs (ns.map PyData.int) → xs = ns.map V.int
  | _, [], .nil => rfl
  | _, n :: ns, .cons (.int _) t => by rw [reps_int_inv t]; rfl
theorem reps_pair_inv {W : Wd} {H : Hp} : ∀ {xs : List V} {ps : List (Int × Int)}, Reps W H xs (ps.map pairD) → ∃ ks : List (Addr × List Int), xs = ks.map (fun p => V.ref p.1) ∧ (∀ p ∈ ks, SqT W.K H p.1 (p.2.map V.int)) ∧ ks.map (·.2) = ps.map fun p => [p.1, p.2]
  | _, [], .nil => ⟨[], rfl, fun p h => (by cases h), rfl⟩
  | _, p :: ps, .cons (.tup (a := ad) h r) t => by
    obtain ⟨ks, e1, e2, e3⟩ := reps_pair_inv t
    have e : [PyData.int p.1, PyData.int p.2] = [p.1, p.2].map PyData.int := rfl
    rw [e] at r
    rw [reps_int_inv r] at h
    refine ⟨(ad, [p.1, p.2]) :: ks, by rw [e1]; rfl, fun q hq => ?_, by rw [List.map_cons, e3]; rfl⟩
    rcases List.mem_cons.mp hq with rfl | hq
    · exact h
    · exact e2 q hq
def tp (l : List Int) : Int × Int := (l.getD 0 0, l.getD 1 0)
theorem reps_pairs {W : Wd} {H : Hp} : ∀ {L : List (Addr × List Int)}, (∀ p ∈ L, SqT W.K H p.1 (p.2.map V.int)) → (∀ p ∈ L, p.2 = [(tp p.2).1, (tp p.2).2]) → Reps W H (L.map fun q => V.ref q.1) ((L.map fun q => tp q.2).map pairD)
  | [], _, _ => .nil
  | p :: L, h, e => by
    have h1 := h p List.mem_cons_self
    rw [e p List.mem_cons_self] at h1
    exact .cons (.tup h1 (.cons (.int _) (.cons (.int _) .nil))) (reps_pairs (fun q hq => h q (List.mem_cons_of_mem _ hq)) fun q hq => e q (List.mem_cons_of_mem _ hq))
/-- sorted(set(x)) -/
def mSrt (_ : List Str) (b : Bl) : Expr → Option (List Expr)
  | .Call (.Name x _) [.Call (.Name y _) [a] [] _] [] _ => if glB b "sorted" x = true ∧ glB b "set" y = true ∧ noStar a = true then some [a] else none
  | _ => none
def srtF : Fm := ⟨srtD, mSrt⟩
theorem srtF_ok {k : Nat} {g : Gd} : FmOk k g srtF := by
  intro c X N b Wx hc at_ e l hm
  subst hc
  have hm : mSrt N b e = some l := hm
  unfold mSrt at hm
  split at hm
  · rename_i x px y py a pq pos
    split at hm
    · rename_i hg
      obtain ⟨g1, g2, g3⟩ := hg
      cases hm
      obtain ⟨rfl, a1, a2, a3⟩ := at_.gl g1
      obtain ⟨rfl, b1, b2, b3⟩ := at_.gl g2
      refine ⟨rfl, rfl, fun fs h => ?_⟩
      have hK := at_.hK
      have u : X.A.units + 64 < cLine := by have := at_.u65; omega
      refine PE.imp (pe_callB (cr_srtX at_.calm) a1 (at_.free _ (by decide)) PyProof.Rows.boot_sorted (pa_cons (pe_callTy (cr_setX at_.calm u) b1 (at_.free _ (by decide)) PyProof.Rows.boot_set h b3 b2 (star_cons g3) (star_all rfl)) pa_nil) a3 a2 (star_cons rfl) (star_all rfl)) fun σ H Q hq => ?_
      obtain ⟨G, e, ok, p⟩ := hq
      refine ⟨G, e, ok, (Post.bind (R := Reps) p).mono fun vs H1 ⟨G1, d1, e1, st1, ok1, r1, p1⟩ => ?_⟩
      have p1 : Post Rep c Wx G1 σ H1 ((srtD d1).at e1) Q := p1
      cases q : srtD d1 with
      | err m =>
        unfold srtD at q
        repeat' (first | cases q | split at q)
      | bad => rw [q] at p1; exact p1.elim
      | ok r =>
        rw [q] at p1
        have p2 : ∀ v H' G', Step c G1 H1 G' H' → Ok c G' σ H' e1 → Rep (c.wd G') H' v r → Q v H' := p1
        clear p1
        unfold srtD at q
        split at q
        · rename_i ds
          split at q
          · rename_i h64
            obtain ⟨v1, rfl, rv⟩ := reps1 r1
            cases rv with
            | @lst a' xs ds' hz1 ha rr =>
              have len : xs.length = ds.length := rr.length
              split at q
              · rename_i ns en
                cases q
                have ed := intsD_eq en
                subst ed
                have ex := reps_int_inv rr
                subst ex
                refine .inl ⟨a', ns, rfl, .inl (.inl ha), by simpa using h64, fun a S n hn hS h6 => .inl ⟨a, S, n, rfl, upd_same, h6, fun ns' p pw hm hl hp => ?_⟩⟩
                have e2 : ns' = srtR ltI ns := pw_uniq ord_I _ _ (pw.imp fun h => by simp [ltI]; exact h) (srtR_pw ord_I ns) fun z => by rw [hm, hS, srtR_mem ord_I]
                subst e2
                have sm := (same_upd (o := SetO X.w a S n) hn).trans (same_upd (o := .lst ((srtR ltI ns).map V.int)) hp)
                refine p2 (.ref p) _ G1 (.of_ext (.of sm)) (ok1.same sm) (rep_lst (ok1.same (same_upd hn)).zl hp (reps_ints _))
              · split at q
                · rename_i ps ep
                  split at q
                  · rename_i hpos
                    cases q
                    have ed := pairsD_eq ep
                    subst ed
                    obtain ⟨ks, ex, hks, hval⟩ := reps_pair_inv rr
                    subst ex
                    have pos : ∀ p ∈ ps, 0 ≤ p.1 ∧ 0 ≤ p.2 := fun p hp => by
                      have := List.all_eq_true.mp hpos p hp
                      simpa using this
                    have val : ∀ p ∈ ks, ∃ q ∈ ps, p.2 = [q.1, q.2] := fun p hp => by
                      have : p.2 ∈ ks.map (·.2) := List.mem_map.mpr ⟨p, hp, rfl⟩
                      rw [hval] at this
                      obtain ⟨q, hq, e⟩ := List.mem_map.mp this
                      exact ⟨q, hq, e.symm⟩
                    have hks : ∀ p ∈ ks, SqT X.K H1 p.1 (p.2.map V.int) := fun p hp => by have := hks p hp; rw [hK]; exact this
                    refine .inr ⟨a', ks, rfl, .inl (.inl ha), hks, by simpa [← len] using h64, fun a L hn hsub hall => .inr ⟨a, L, 2, topOf ps, rfl, upd_same, fun p hp => ?_, by decide, fun p hp => ?_, fun L' p pm nd hl pw hp => ?_⟩⟩
                    · exact SqT.keep ok1.zl (Ext.of (same_upd hn)).keep (hks p (hsub p hp))
                    · obtain ⟨q, hq, e⟩ := val p (hsub p hp)
                      have t := topOf_gt ps q hq
                      have t2 := pos q hq
                      rw [e]
                      refine ⟨rfl, fun m hm => ?_⟩
                      simp at hm
                      rcases hm with rfl | rfl <;> omega
                    · have val' : ∀ p ∈ L', ∃ q ∈ ps, p.2 = [q.1, q.2] := fun p hp => val p (hsub p (pm.mem_iff.mp hp))
                      have e2 : L'.map (fun q => tp q.2) = srtR ltP ps := by
                        refine pw_uniq ord_P _ _ ?_ (srtR_pw ord_P ps) fun z => ?_
                        · rw [List.pairwise_map]
                          have nd' := List.pairwise_map.mp nd
                          refine (List.Pairwise.and_mem.mp (pw.and nd')).imp fun {x y} ⟨hx, hy, h1, h2⟩ => ?_
                          obtain ⟨q, hq, eq⟩ := val' x hx
                          obtain ⟨r, hr, er⟩ := val' y hy
                          rw [eq, er] at h1 h2 ⊢
                          exact code_lt (p := q) (q := r) (pos q hq) (pos r hr) (topOf_gt ps q hq) (topOf_gt ps r hr) h1 fun z => h2 (by rw [z])
                        · rw [srtR_mem ord_P]
                          constructor
                          · intro hz
                            obtain ⟨x, hx, rfl⟩ := List.mem_map.mp hz
                            obtain ⟨q, hq, eq⟩ := val' x hx
                            rw [eq]; exact hq
                          · intro hz
                            have : [z.1, z.2] ∈ ks.map (·.2) := by rw [hval]; exact List.mem_map.mpr ⟨z, hz, rfl⟩
                            obtain ⟨x, hx, ex⟩ := List.mem_map.mp this
                            obtain ⟨y, hy, ey⟩ := List.mem_map.mp (hall x hx)
                            exact List.mem_map.mpr ⟨y, pm.mem_iff.mpr hy, by rw [ey, ex]; rfl⟩
                      rw [← e2] at p2
                      have sm := (same_upd (o := SetTO X.prog X.w a L) hn).trans (same_upd (o := .lst (L'.map fun q => V.ref q.1)) hp)
                      refine p2 (.ref p) _ G1 (.of_ext (.of sm)) (ok1.same sm) (rep_lst (ok1.same (same_upd hn)).zl hp (reps_pairs (fun q hq => ?_) fun q hq => ?_))
                      · have := SqT.keep ok1.zl (Ext.of (same_upd (o := SetTO X.prog X.w a L) hn)).keep (hks q (hsub q (pm.mem_iff.mp hq)))
                        rw [hK] at this; exact this
                      · obtain ⟨r, hr, e⟩ := val' q hq
                        rw [e]; rfl
                  · cases q
                · cases q
          · cases q
        · cases q
    · cases hm
  · cases hm
end DV
set_option Elab.async false
set_option linter.all false
set_option maxRecDepth 100000
set_option maxHeartbeats 4000000
/-! l.index(True), l a list of truths: a form. -/
namespace DV
open PySem PySem.Spec PyProof.Rows L2
section
variable {X : Cx}
/-- one argument alone -/
theorem pe_of_pa {x : Expr} {t : TA} (h : PA X [x] t) (hs : starEach [x] X.env = (false, eval x X.env) :: starEach [] X.env) : PE X x (fun σ H Q => t σ H fun vs H1 => ∃ v, vs = [v] ∧ Q v H1) := by
  refine ⟨fun pins s σ H Q I ht => ?_⟩
  have w := h.run ⟨0, 0, 0, 0⟩ pins s σ H _ I ht
  rw [hs] at w
  change wpAny _ _ (spliced [(false, eval x X.env)]) _ _ s at w
  intro Γ p hΓ
  have w := w Γ p hΓ
  simp only [spliced, Sem.wp_bind', Sem.wp_holding, Sem.wp_pure', Bool.false_eq_true, if_false] at w
  refine Sem.wp_mono _ Γ _ (fun u p2 s2 q => ?_) (fun _ _ _ q => q) p s w
  obtain ⟨vs, H', I', r, v, e, qv⟩ := q
  subst e
  cases r with
  | cons r1 r2 => exact ⟨v, H', I', r1, qv⟩
end
/-- where True stands first -/
def firstT : List D → Option Nat
  | [] => none
  | .bool true :: _ => some 0
  | .bool false :: r => (firstT r).map (· + 1)
  | _ :: _ => none
def idxD : List D → Out D
  | [.list ds] => (match firstT ds with
    | some j => if ds.all flatD = true then .ok (.int (j : Nat)) else .bad
    | none => .bad)
  | _ => .bad
theorem firstT_spec : ∀ {ds : List D} {j : Nat}, firstT ds = some j → ds[j]? = some (.bool true) ∧ ∀ m, m < j → ds[m]? = some (.bool false)
  | [], j, h => by cases h
  | d :: r, j, h => by
    unfold firstT at h
    split at h
    · rename_i heq; cases heq
    · rename_i heq; cases heq; cases h; exact ⟨rfl, fun m hm => by omega⟩
    · rename_i r' heq
      cases heq
      cases e : firstT r with
      | none => rw [e] at h; cases h
      | some i =>
        rw [e] at h; cases h
        obtain ⟨a, b⟩ := firstT_spec e
        refine ⟨by simpa using a, fun m hm => ?_⟩
        cases m with
        | zero => rfl
        | succ m => simpa using b m (by have hm : m + 1 < i + 1 := hm; omega)
    · cases h
def mIdx (_ : List Str) (_ : Bl) : Expr → Option (List Expr)
  | .Call (.Attribute (.Name x px) nm ap) [.Constant (.bool true) _ _] [] cp => if nm = "index" ∧ (ap.endLine == cp.line) = true then some [.Name x px] else none
  | _ => none
def idxF : Fm := ⟨idxD, mIdx⟩
theorem idxF_ok {k : Nat} {g : Gd} : FmOk k g idxF := by
  intro c X N b Wx hc at_ e l hm0
  subst hc
  have hm : mIdx N b e = some l := hm0
  clear hm0
  unfold mIdx at hm
  split at hm
  · split at hm
    · rename_i hg
      obtain ⟨g1, g2⟩ := hg
      subst g1
      cases hm
      refine ⟨rfl, rfl, fun fs h => ?_⟩
      have hK := at_.hK
      refine PE.imp (pe_bm PySem.F.plainAttrs_list PySem.F.slot_list_index PySem.F.type_list_index mt_index (pe_of_pa h rfl) (pa_cons pe_bl pa_nil) rfl rfl g2 rfl rfl) fun σ H Q hq => ?_
      obtain ⟨G, e, ok, p⟩ := hq
      refine ⟨G, e, ok, (Post.bind (R := Reps) p).mono fun vs H1 ⟨G1, d1, e1, st1, ok1, r1, p1⟩ => ?_⟩
      have p1 : Post Rep c Wx G1 σ H1 ((idxD d1).at e1) Q := p1
      cases q : idxD d1 with
      | err m =>
        unfold idxD at q
        repeat' (first | cases q | split at q)
      | bad => rw [q] at p1; exact p1.elim
      | ok r =>
        rw [q] at p1
        have p2 : ∀ v H' G', Step c G1 H1 G' H' → Ok c G' σ H' e1 → Rep (c.wd G') H' v r → Q v H' := p1
        clear p1
        unfold idxD at q
        split at q
        · rename_i ds
          split at q
          · rename_i j ej
            split at q
            · rename_i hf
              cases q
              obtain ⟨v1, rfl, rv⟩ := reps1 r1
              cases rv with
              | @lst a xs ds' hz ha rr =>
                obtain ⟨f1, f2⟩ := firstT_spec ej
                obtain ⟨z, z1, z2⟩ := rr.get f1
                cases z2
                have flat : ∀ (us : List V) (es : List D), Reps (c.wd G1) H1 us es → es.all flatD = true → us.all flatV = true := fun us => by
                  induction us with
                  | nil => intro es r _; rfl
                  | cons u us ih =>
                    intro es r he
                    cases r with
                    | cons r1 r2 =>
                      simp only [List.all_cons, Bool.and_eq_true] at he ⊢
                      exact ⟨flat_rep r1 he.1, ih _ r2 he.2⟩
                refine ⟨_, rfl, .inl ⟨rfl, xs, .inl (.inl ha)⟩, a, xs, .bl true, j, .bl true, rfl, rfl, .inl (.inl ha), rfl, flat _ _ rr hf, z1, rfl, fun m z' hm hz' => ?_, p2 _ H1 G1 (.refl _ _ _) ok1 (.int _)⟩
                obtain ⟨d, d1, d2⟩ := rr.getV hz'
                rw [f2 m hm] at d1; cases d1; cases d2
                rfl
            · cases q
          · cases q
        · cases q
    · cases hm
  · cases hm
end DV
set_option Elab.async false
set_option linter.all false
set_option maxRecDepth 100000
set_option maxHeartbeats 4000000
/-! Two lists in a list, changed by another name: pieces. -/
namespace DV
open PySem PySem.Spec PyProof.Rows L2
section
variable {X : Cx} {c : Ctx} {Wx : WX} {G : Gh} {σ : L2.St} {H H' : Hp} {e : En}
/-- slot i is told of no more -/
theorem Ok.drop {i : Nat} (ok : Ok c G σ H e) (hf : e.free i = true) : Ok c ⟨G.M.set i none, G.O, G.X⟩ σ H (e.put i .no) := by
  have hl := (free_lt hf).1
  have hσ : i < σ.length := by rw [← ok.len]; exact hl
  have hM : i < G.M.length := by rw [ok.lenM]; exact hσ
  have st : StepS c G H ⟨G.M.set i none, G.O, G.X⟩ H := .drop i
  refine ⟨by simpa [En.put] using ok.len, by simpa using ok.lenM, fun j s q => ?_, fun j k a h1 h2 => ?_, ok.fr, fun b z => ok.zl b (zm_none z), fun j a h => ?_, fun j ds' b q h => ?_, fun p hp => ⟨(ok.pin p hp).1, fun j h => ?_⟩, ok.argSet hf fun j h => List.getElem?_set_ne h, fun n k fs q => ?_⟩
  · rcases set_get q with ⟨rfl, rfl, _⟩ | ⟨ne, q⟩
    · exact ⟨none, σ[j], List.getElem?_set_self hM, List.getElem?_eq_getElem hσ, rfl⟩
    · obtain ⟨m, x, h1, h2, h3⟩ := ok.slot j s q
      refine ⟨m, x, by rw [List.getElem?_set_ne (Ne.symm ne)]; exact h1, h2, ?_⟩
      cases s with
      | no => exact h3
      | val d => obtain ⟨a, v, b, r⟩ := h3; exact ⟨a, v, b, st.rep ok.zl r⟩
      | own ds => obtain ⟨a, vs, e1, e2, e3, r⟩ := h3; exact ⟨a, vs, e1, e2, e3, st.reps ok.zl r⟩
      | bag ds => obtain ⟨a, vs, e1, e2, e3, r⟩ := h3; exact ⟨a, vs, e1, e2, e3, st.reps ok.zl r⟩
  · rcases set_get h1 with ⟨_, z, _⟩ | ⟨_, h1⟩
    · cases z
    · rcases set_get h2 with ⟨_, z, _⟩ | ⟨_, h2⟩
      · cases z
      · exact ok.inj j k a h1 h2
  · rcases set_get h with ⟨_, z, _⟩ | ⟨_, h⟩
    · cases z
    · exact ok.own j a h
  · rcases set_get h with ⟨_, z, _⟩ | ⟨ne, h⟩
    · cases z
    · have q : (e.sl.set i .no)[j]? = some (.own ds') := q
      rw [List.getElem?_set_ne (Ne.symm ne)] at q
      exact ok.mine j ds' b q h
  · rcases set_get h with ⟨_, z, _⟩ | ⟨_, h⟩
    · cases z
    · exact (ok.pin p hp).2 j h
  · obtain ⟨a, dx, vs, e1, e2, e3, e4⟩ := ok.obs n k fs q
    exact ⟨a, dx, vs, e1, e2, e3, st.reps ok.zl e4⟩
/-- an own list goes out of its slot, held -/
theorem Ok.pinOwn {i : Nat} {ds : List D} (ok : Ok c G σ H e) (q : e.getOwn i = .ok ds) : ∃ a vs, σ[i]? = some (some (.ref a)) ∧ H a = some (.lst vs) ∧ Reps (c.wd G) H vs ds ∧ New c a ∧ (∀ p ∈ G.X, p.1 ≠ a) ∧ Ok c ⟨G.M.set i none, G.O, (a, vs) :: G.X⟩ σ H (e.put i .no) ∧ ∀ b, Zm c ⟨G.M.set i none, G.O, (a, vs) :: G.X⟩ b → Zm c G b := by
  obtain ⟨a, vs, q1, q2, q3, q4, q5⟩ := own_get ok q
  have hf : e.free i = true := by unfold En.free; rw [q1]
  have hl := (free_lt hf).1
  have hσ : i < σ.length := by rw [← ok.len]; exact hl
  have hM : i < G.M.length := by rw [ok.lenM]; exact hσ
  have zz : ∀ b, Zm c ⟨G.M.set i none, G.O, (a, vs) :: G.X⟩ b → Zm c G b := fun b z => by
    rcases z with z | z | ⟨xs, z⟩
    · exact .inl z
    · obtain ⟨j, hj⟩ := List.getElem?_of_mem z
      rcases set_get hj with ⟨_, z, _⟩ | ⟨nj, hj⟩
      · cases z
      · exact .inr (.inl (List.mem_of_getElem? hj))
    · rcases List.mem_cons.mp z with z | z
      · cases z; exact .inr (.inl (List.mem_of_getElem? q2))
      · exact .inr (.inr ⟨xs, z⟩)
  have st : StepS c G H ⟨G.M.set i none, G.O, (a, vs) :: G.X⟩ H := ⟨rfl, fun b o h d n => ⟨h, fun z => n (zz b z)⟩⟩
  have nx : ∀ p ∈ G.X, p.1 ≠ a := fun p hp z => (ok.pin p hp).2 i (by rw [z]; exact q2)
  refine ⟨a, vs, q3, q4, q5, ⟨ok.own i a q2, ok.mine i ds a q1 q2⟩, nx, ?_, zz⟩
  refine ⟨by simpa [En.put] using ok.len, by simpa using ok.lenM, fun j s q => ?_, fun j k a h1 h2 => ?_, ok.fr, fun b z => ok.zl b (zz b z), fun j a h => ?_, fun j ds' b q h => ?_, fun p hp => ?_, ok.argSet hf fun j h => List.getElem?_set_ne h, fun n k fs q => ?_⟩
  · rcases set_get q with ⟨rfl, rfl, _⟩ | ⟨ne, q⟩
    · exact ⟨none, σ[j], List.getElem?_set_self hM, List.getElem?_eq_getElem hσ, rfl⟩
    · obtain ⟨m, x, h1, h2, h3⟩ := ok.slot j s q
      refine ⟨m, x, by rw [List.getElem?_set_ne (Ne.symm ne)]; exact h1, h2, ?_⟩
      cases s with
      | no => exact h3
      | val d => obtain ⟨a, v, b, r⟩ := h3; exact ⟨a, v, b, st.rep ok.zl r⟩
      | own ds => obtain ⟨a, vs, e1, e2, e3, r⟩ := h3; exact ⟨a, vs, e1, e2, e3, st.reps ok.zl r⟩
      | bag ds => obtain ⟨a, vs, e1, e2, e3, r⟩ := h3; exact ⟨a, vs, e1, e2, e3, st.reps ok.zl r⟩
  · rcases set_get h1 with ⟨_, z, _⟩ | ⟨_, h1⟩
    · cases z
    · rcases set_get h2 with ⟨_, z, _⟩ | ⟨_, h2⟩
      · cases z
      · exact ok.inj j k a h1 h2
  · rcases set_get h with ⟨_, z, _⟩ | ⟨_, h⟩
    · cases z
    · exact ok.own j a h
  · rcases set_get h with ⟨_, z, _⟩ | ⟨ne, h⟩
    · cases z
    · have q : (e.sl.set i .no)[j]? = some (.own ds') := q
      rw [List.getElem?_set_ne (Ne.symm ne)] at q
      exact ok.mine j ds' b q h
  · rcases List.mem_cons.mp hp with rfl | hp
    · refine ⟨q4, fun j h => ?_⟩
      rcases set_get h with ⟨_, z, _⟩ | ⟨ne, h⟩
      · cases z
      · exact ne (ok.inj j i a h q2)
    · refine ⟨(ok.pin p hp).1, fun j h => ?_⟩
      rcases set_get h with ⟨_, z, _⟩ | ⟨_, h⟩
      · cases z
      · exact (ok.pin p hp).2 j h
  · obtain ⟨a, dx, vs, e1, e2, e3, e4⟩ := ok.obs n k fs q
    exact ⟨a, dx, vs, e1, e2, e3, st.reps ok.zl e4⟩
mutual
/-- plain data stands for itself whatever the objects -/
theorem Rep.anyO {W W' : Wd} (hK : W'.K = W.K) (hZ : ∀ a, W'.Z a → W.Z a) : ∀ {v : V} {d : D}, Rep W H v d → PyData.canLay0 d = true → Rep W' H v d
  | _, _, .non, _ => .non
  | _, _, .bl b, _ => .bl b
  | _, _, .int i, _ => .int i
  | _, _, .str x, _ => .str x
  | _, _, .lst n h r, s => .lst (fun z => n (hZ _ z)) h (Reps.anyO hK hZ r (by simpa only [PyData.canLay0] using s))
  | _, _, .tup h r, s => .tup (by rw [hK]; exact h) (Reps.anyO hK hZ r (by simpa only [PyData.canLay0] using s))
  | _, _, .obj _, s => absurd s (by simp [PyData.canLay0])
  | _, _, .scr _ _, s => absurd s (by simp [PyData.canLay0])
  | _, _, .scrL _ _ _, s => absurd s (by simp [PyData.canLay0])
theorem Reps.anyO {W W' : Wd} (hK : W'.K = W.K) (hZ : ∀ a, W'.Z a → W.Z a) : ∀ {v : List V} {d : List D}, Reps W H v d → PyData.canLayAll0 d = true → Reps W' H v d
  | _, _, .nil, _ => .nil
  | _, _, .cons h t, s => by
    rw [PyData.canLayAll0, Bool.and_eq_true] at s
    exact .cons (Rep.anyO hK hZ h s.1) (Reps.anyO hK hZ t s.2)
end
def plainSl : Slot → Bool
  | .no => true
  | .val d => PyData.canLay0 d
  | _ => false
/-- other objects, where all slots hold plain data -/
theorem Ok.setO (ok : Ok c G σ H e) (O : List Addr) (hs : ∀ s ∈ e.sl, plainSl s = true) (hst : e.st = []) : Ok c ⟨G.M, O, G.X⟩ σ H e := by
  refine ⟨ok.len, ok.lenM, fun j s q => ?_, ok.inj, ok.fr, ok.zl, ok.own, ok.mine, ok.pin, ok.arg, fun n k fs q => (by rw [hst] at q; simp at q)⟩
  obtain ⟨m, x, h1, h2, h3⟩ := ok.slot j s q
  refine ⟨m, x, h1, h2, ?_⟩
  have hp := hs s (List.mem_of_getElem? q)
  cases s with
  | no => exact h3
  | val d =>
    obtain ⟨a, v, b, r⟩ := h3
    exact ⟨a, v, b, Rep.anyO (W := c.wd G) (W' := c.wd ⟨G.M, O, G.X⟩) rfl (fun a z => z) r hp⟩
  | own ds => cases hp
  | bag ds => cases hp
end
end DV
set_option Elab.async false
set_option linter.all false
set_option maxRecDepth 100000
set_option maxHeartbeats 4000000
/-! The law's clock: rows = [[0], [0]]; while more: .. row.append(..) ..; return rows. -/
namespace DV
open PySem PySem.Spec PyProof.Rows L2

def isD (ns : List Int) : List D := ns.map PyData.int
def vsI (ns : List Int) : List V := ns.map V.int
structure Ck where
  pl : D
  fl : D
  pa : D
  wh : D
  xs : List Int
  ys : List Int
  mo : Bool
def Ck.sl (s : Ck) (who : Slot) : List Slot := [.val s.pl, .val s.fl, .val s.pa, .val s.wh, .own [obj 0, obj 1], .val (.bool s.mo), who, .no, .no, .no, .no, .no, .no, .no]
/-- the slots of the inner text -/
def ckInO (s : Ck) (w : Int) (r o : List Int) : En := ⟨[.val s.pl, .val s.fl, .val s.pa, .val s.wh, .own [obj 0, obj 1], .val (.bool s.mo), .val (.int w), .own (isD r), .own (isD o), .val (.int ((r.length : Int) - 1)), .no, .no, .no, .no], []⟩
def ckIn (s : Ck) (w : Int) (r o : List Int) : En := ⟨[.val s.pl, .val s.fl, .val s.pa, .val s.wh, .own [obj 0, obj 1], .val (.bool s.mo), .val (.int w), .bag (isD r), .bag (isD o), .val (.int ((r.length : Int) - 1)), .no, .no, .no, .no], []⟩
def nbS : Slot → Bool
  | .bag _ => false
  | _ => true
def ckOut (e : En) : Out Ck := match e with
  | ⟨[.val a, .val b, .val p, .val w, .own [.dict [(.int 0, .none)], .dict [(.int 1, .none)]], .val (.bool mo), s6, .bag r, .bag o, s9, s10, s11, s12, s13], []⟩ =>
    if nbS s6 && nbS s9 && nbS s10 && nbS s11 && nbS s12 && nbS s13 then (match intsD r, intsD o with
      | some r, some o => .ok ⟨a, b, p, w, r, o, mo⟩
      | _, _ => .bad) else .bad
  | _ => .bad
def Ck.swap (s : Ck) : Ck := ⟨s.pl, s.fl, s.pa, s.wh, s.ys, s.xs, s.mo⟩
/-- one boat's turn: boat 0 (w = false), boat 1 -/
def ckTurn (I : S) (w : Bool) (s : Ck) : Out Ck := match w with
  | false => (match evS I (ckIn s 0 s.xs s.ys) with
    | .next e => ckOut e
    | _ => .bad)
  | true => (match evS I (ckIn s 1 s.ys s.xs) with
    | .next e => (ckOut e).map Ck.swap
    | _ => .bad)
def ckRest (I : S) : Nat → Ck → Out Ck
  | 0, s => (ckTurn I false s).bind (ckTurn I true)
  | 1, s => ckTurn I true s
  | _, s => .ok s
def ckLoop (I : S) : Nat → Ck → Out Ck
  | 0, _ => .bad
  | n + 1, s => if s.mo = true then (ckRest I 0 { s with mo := false }).bind (ckLoop I n) else .ok s
def noEn : En := ⟨List.replicate 14 .no, []⟩
def ckFrom (I : S) (s : Ck) : SO := match ckLoop I 1000000 s with
  | .ok s => .ret (.list [.list (isD s.xs), .list (isD s.ys)]) noEn
  | _ => .bad
def ckF (I : S) (e : En) : SO := match e with
  | ⟨[.val pl, .val fl, .val pa, .val wh, .no, .no, .no, .no, .no, .no, .no, .no, .no, .no], []⟩ =>
    if PyData.canLay0 pl && PyData.canLay0 fl && PyData.canLay0 pa && PyData.canLay0 wh then ckFrom I ⟨pl, fl, pa, wh, [0], [0], true⟩ else .bad
  | _ => .bad

/-- the list in slot i is a's, for a while -/
def Ctx.lend (c : Ctx) (i : Nat) (a : Addr) : Ctx := ⟨c.toGd, c.Z, c.H0, c.B, c.cl, (i, a) :: c.PP⟩
section
variable {X : Cx} {c : Ctx} {Wx : WX} {G G0 : Gh} {σ : L2.St} {H H0 : Hp} {e : En}
theorem Ok.lend {i : Nat} {a : Addr} {ds : List D} (ok : Ok c G σ H e) (h : e.sl[i]? = some (.own ds)) (hM : G.M[i]? = some (some a)) : Ok (c.lend i a) G σ H (e.put i (.bag ds)) := by
  have hl : i < e.sl.length := (List.getElem?_eq_some_iff.mp h).1
  refine ⟨by simpa [En.put] using ok.len, ok.lenM, fun j s q => ?_, ok.inj, ok.fr, ok.zl, ok.own, fun j ds' b q hb => ?_, ok.pin, fun p hp => ?_, ok.obs⟩
  · have q : (e.sl.set i (.bag ds))[j]? = some s := q
    rcases set_get q with ⟨rfl, rfl, _⟩ | ⟨nj, q⟩
    · obtain ⟨m, x, h1, h2, h3⟩ := ok.slot _ _ h
      exact ⟨m, x, h1, h2, h3⟩
    · exact ok.slot j s q
  · have q : (e.sl.set i (.bag ds))[j]? = some (.own ds') := q
    rcases set_get q with ⟨_, z, _⟩ | ⟨nj, q⟩
    · cases z
    · exact ok.mine j ds' b q hb
  · show G.M[p.1]? = some (some p.2) ∧ ∃ ds', (e.sl.set i (.bag ds))[p.1]? = some (.bag ds')
    rcases List.mem_cons.mp hp with rfl | hp
    · exact ⟨hM, ds, List.getElem?_set_self hl⟩
    · obtain ⟨b1, ds', b2⟩ := ok.arg p hp
      refine ⟨b1, ds', ?_⟩
      rw [List.getElem?_set_ne fun z => ?_]; exact b2
      rw [← z, h] at b2; cases b2
theorem Ok.unlend {i : Nat} {a : Addr} {ds : List D} (ok : Ok (c.lend i a) G σ H e) (h : e.sl[i]? = some (.bag ds)) (nw : New c a) (hp : ∀ p ∈ c.PP, p.1 ≠ i) : Ok c G σ H (e.put i (.own ds)) ∧ G.M[i]? = some (some a) := by
  have hl : i < e.sl.length := (List.getElem?_eq_some_iff.mp h).1
  have hM : G.M[i]? = some (some a) := (ok.arg (i, a) List.mem_cons_self).1
  refine ⟨⟨by simpa [En.put] using ok.len, ok.lenM, fun j s q => ?_, ok.inj, ok.fr, ok.zl, ok.own, fun j ds' b q hb => ?_, ok.pin, fun p hq => ?_, ok.obs⟩, hM⟩
  · have q : (e.sl.set i (.own ds))[j]? = some s := q
    rcases set_get q with ⟨rfl, rfl, _⟩ | ⟨nj, q⟩
    · obtain ⟨m, x, h1, h2, h3⟩ := ok.slot _ _ h
      exact ⟨m, x, h1, h2, h3⟩
    · exact ok.slot j s q
  · have q : (e.sl.set i (.own ds))[j]? = some (.own ds') := q
    rcases set_get q with ⟨rfl, _, _⟩ | ⟨nj, q⟩
    · rw [hM] at hb; cases hb; exact nw.z
    · exact ok.mine j ds' b q hb
  · show G.M[p.1]? = some (some p.2) ∧ ∃ ds', (e.sl.set i (.own ds))[p.1]? = some (.bag ds')
    obtain ⟨b1, ds', b2⟩ := ok.arg p (List.mem_cons_of_mem _ hq)
    exact ⟨b1, ds', by rw [List.getElem?_set_ne (Ne.symm (hp p hq))]; exact b2⟩
theorem Ok.pinAt {i : Nat} {a : Addr} {ds : List D} (ok : Ok c G σ H e) (h : e.sl[i]? = some (.own ds)) (hM : G.M[i]? = some (some a)) :
    ∃ vs, Reps (c.wd G) H vs ds ∧ Ok c ⟨G.M.set i none, G.O, (a, vs) :: G.X⟩ σ H (e.put i .no) ∧ StepS c G H ⟨G.M.set i none, G.O, (a, vs) :: G.X⟩ H := by
  obtain ⟨m, x, h1, h2, a1, vs1, e1, e2, _, _⟩ := ok.slot _ _ h
  rw [hM] at h1
  cases h1
  cases e1
  subst e2
  obtain ⟨a', vs, q1, q2, q3, q4, q5, q6, q7⟩ := ok.pinOwn (i := i) (ds := ds) (by unfold En.getOwn; rw [h])
  rw [h2] at q1
  cases q1
  exact ⟨vs, q3, q6, ⟨rfl, fun b o hb _ n => ⟨hb, fun z => n (q7 b z)⟩⟩⟩
theorem reps_vsI {W : Wd} {H : Hp} : ∀ ns : List Int, Reps W H (vsI ns) (isD ns) := fun ns => reps_ints ns
theorem vsI_of {W : Wd} {H : Hp} : ∀ {ns : List Int} {vs : List V}, Reps W H vs (isD ns) → vs = vsI ns
  | [], _, .nil => rfl
  | n :: ns, _, .cons (.int _) r => by rw [vsI_of r]; rfl
/-- what a turn rests on -/
structure CkS (c : Ctx) (a b : Addr) : Prop where
  na : New c a
  nb : New c b
  ne : a ≠ b
  hp : ∀ p, p ∉ c.PP
structure CkAt (c : Ctx) (a b : Addr) (who : Slot) (s : Ck) (G : Gh) (σ : L2.St) (H : Hp) : Prop where
  ok : Ok c G σ H ⟨s.sl who, []⟩
  O : G.O = [a, b]
  p1 : (a, vsI s.xs) ∈ G.X
  p2 : (b, vsI s.ys) ∈ G.X
theorem CkS.swap {a b : Addr} (h : CkS c a b) : CkS c b a := ⟨h.nb, h.na, Ne.symm h.ne, h.hp⟩
/-- ahead of the inner text: the rows in their slots -/
theorem ck_in {s : Ck} {w : Int} {a b : Addr} {r o : List Int} (ok : Ok c G σ H ⟨s.sl (.val (.int w)), []⟩) (pa : (a, vsI r) ∈ G.X) (pb : (b, vsI o) ∈ G.X) (cs : CkS c a b) :
    ∃ G', Ok ((c.lend 7 a).lend 8 b) G' (((σ.set 7 (some (.ref a))).set 8 (some (.ref b))).set 9 (some (.int ((r.length : Int) - 1)))) H (ckIn s w r o) ∧ StepS c G H G' H := by
  have hX : ∀ p ∈ ([(a, vsI r), (b, vsI o)] : List (Addr × List V)), p ∈ G.X := fun p hp => by
    simp at hp; rcases hp with rfl | rfl
    · exact pa
    · exact pb
  have ok1 := ok.unpin (X' := [(a, vsI r), (b, vsI o)]) hX
  have st1 : StepS c G H ⟨G.M, G.O, [(a, vsI r), (b, vsI o)]⟩ H := ⟨rfl, fun x y h d n => ⟨h, fun z => n (by
    rcases z with z | z | ⟨xs, z⟩
    · exact .inl z
    · exact .inr (.inl z)
    · exact .inr (.inr ⟨xs, hX _ z⟩))⟩⟩
  obtain ⟨ok2, st2⟩ := ok1.claim (i := 7) (S := .own (isD r)) rfl rfl (reps_vsI r) cs.na (fun q hq => by
    simp at hq; subst hq; exact fun z => cs.ne z.symm) rfl
  obtain ⟨ok3, st3⟩ := ok2.claim (i := 8) (S := .own (isD o)) rfl rfl (reps_vsI o) cs.nb (fun q hq => by simp at hq) rfl
  have ok4 := ok3.set (i := 9) (v := .int ((r.length : Int) - 1)) (d := .int ((r.length : Int) - 1)) rfl (.int _)
  have lM : G.M.length = 14 := by rw [ok.lenM, ← ok.len]; rfl
  have ok5 := Ok.lend (i := 7) (a := a) (ds := isD r) ok4 rfl (by
    show (((G.M.set 7 (some a)).set 8 (some b)).set 9 none)[7]? = _
    rw [List.getElem?_set_ne (by decide), List.getElem?_set_ne (by decide), List.getElem?_set_self (by omega)])
  have ok6 := Ok.lend (i := 8) (a := b) (ds := isD o) ok5 rfl (by
    show (((G.M.set 7 (some a)).set 8 (some b)).set 9 none)[8]? = _
    rw [List.getElem?_set_ne (by decide), List.getElem?_set_self (by simp; omega)])
  exact ⟨_, ok6, st1.trans (st2.trans (st3.trans (StepS.drop 9)))⟩
theorem nb_free {s : Slot} {l : List Slot} {i : Nat} {st} (h : l[i]? = some s) (hs : nbS s = true) : En.free ⟨l, st⟩ i = true := by
  unfold En.free; dsimp only; rw [h]; cases s <;> first | rfl | cases hs
/-- behind the inner text -/
theorem ck_out {s : Ck} {a b : Addr} (ok : Ok ((c.lend 7 a).lend 8 b) G σ H e) (q : ckOut e = .ok s) (cs : CkS c a b) :
    ∃ G', Ok c G' σ H ⟨s.sl .no, []⟩ ∧ (a, vsI s.xs) ∈ G'.X ∧ (b, vsI s.ys) ∈ G'.X ∧ StepS c G H G' H := by
  unfold ckOut at q
  split at q
  · rename_i pl fl pa wh mo s6 r o s9 s10 s11 s12 s13
    split at q
    · rename_i hf
      simp only [Bool.and_eq_true] at hf
      obtain ⟨⟨⟨⟨⟨h6, h9⟩, h10⟩, h11⟩, h12⟩, h13⟩ := hf
      split at q
      · rename_i r' o' e1 e2
        cases q
        have e1 := intsD_eq e1
        have e2 := intsD_eq e2
        subst e1 e2
        obtain ⟨ok1, m8⟩ := Ok.unlend (c := c.lend 7 a) (i := 8) ok rfl ⟨cs.nb.own, cs.nb.z⟩ (fun p hp => by
          rcases List.mem_cons.mp hp with rfl | hp
          · exact (by decide : (7 : Nat) ≠ 8)
          · exact (cs.hp p hp).elim)
        obtain ⟨ok2, m7⟩ := Ok.unlend (i := 7) ok1 rfl cs.na (fun p hp => (cs.hp p hp).elim)
        have lM : G.M.length = 14 := by rw [ok.lenM, ← ok.len]; rfl
        obtain ⟨v8, r8, ok3, st3⟩ := Ok.pinAt (i := 8) (a := b) (ds := o'.map PyData.int) ok2 rfl m8
        have v8 := vsI_of (ns := o') r8
        subst v8
        obtain ⟨v7, r7, ok4, st4⟩ := Ok.pinAt (i := 7) (a := a) (ds := r'.map PyData.int) ok3 rfl (by
          show (G.M.set 8 none)[7]? = _
          rw [List.getElem?_set_ne (by decide)]; exact m7)
        have v7 := vsI_of (ns := r') r7
        subst v7
        have ok5 := Ok.drop (i := 6) ok4 (nb_free rfl h6)
        have ok6 := Ok.drop (i := 9) ok5 (nb_free rfl h9)
        have ok7 := Ok.drop (i := 10) ok6 (nb_free rfl h10)
        have ok8 := Ok.drop (i := 11) ok7 (nb_free rfl h11)
        have ok9 := Ok.drop (i := 12) ok8 (nb_free rfl h12)
        have ok10 := Ok.drop (i := 13) ok9 (nb_free rfl h13)
        exact ⟨_, ok10, .head _, .tail _ (.head _), (st3.trans (st4.trans ((StepS.drop 6).trans ((StepS.drop 9).trans ((StepS.drop 10).trans ((StepS.drop 11).trans ((StepS.drop 12).trans (StepS.drop 13))))))))⟩
      · cases q
    · cases q
  · cases q
end
def KeepO (c : Ctx) (G0 : Gh) (H0 : Hp) (G : Gh) (H : Hp) : Prop := ∀ b o, H0 b = some o → isDat o → ¬ Zm c G0 b → H b = some o ∧ ¬ Zm c G b
theorem KeepO.step {c : Ctx} {G0 G G' : Gh} {H0 H H' : Hp} (k : KeepO c G0 H0 G H) (s : StepS c G H G' H') : KeepO c G0 H0 G' H' := fun b o h d n => let ⟨p, q⟩ := k b o h d n; s.keep b o p d q
theorem KeepO.zm {c : Ctx} {G0 G G' : Gh} {H0 H : Hp} (k : KeepO c G0 H0 G H) (z : ∀ b, Zm c G' b → Zm c G b) : KeepO c G0 H0 G' H := fun b o h d n => let ⟨p, q⟩ := k b o h d n; ⟨p, fun r => q (z b r)⟩
end DV
set_option Elab.async false
set_option linter.all false
set_option maxRecDepth 100000
set_option maxHeartbeats 4000000
/-! The law's clock: the texts of one turn. -/
namespace DV
open PySem PySem.Spec PyProof.Rows L2

def eRow : E := .ownIx 4 (.var 6)
def eOth : E := .ownIx 4 (.bin .sub (.cst (.int 1)) (.var 6))
/-- len(rows[who]) - 1 -/
def lenM (N : List Str) (b : Bl) : Expr → Bool
  | .BinOp (.Call (.Name w _) [d] [] _) .Sub o _ => glB b "len" w && (mt N eRow).v b d && (mt N (.cst (.int 1))).v b o
  | _ => false
def ckM3 (N : List Str) (b : Bl) (l : List Stmt) : Bool := match l with
  | [.Assign [.Tuple [.Name x px, .Name y py, .Name z pz] _ _] (.Tuple [a', c', d'] _ _) _] => lcB N b 7 x && lcB N b 8 y && lcB N b 9 z && decide (b.sc.names.lookup x = some .local) && decide (b.sc.names.lookup y = some .local) && decide (b.sc.names.lookup z = some .local)
      && (px.line == py.line) && (px.line == pz.line) && !(foldedForSure 8 a' && foldedForSure 8 c' && foldedForSure 8 d') && !(constantsAlone 8 a' && constantsAlone 8 c' && constantsAlone 8 d')
      && (mt N eRow).v b a' && (mt N eOth).v b c' && lenM N b d'
  | _ => false
def wI : Bool → Int
  | false => 0
  | true => 1
def wN : Bool → Nat
  | false => 0
  | true => 1
def rowA (a b : Addr) : Bool → Addr
  | false => a
  | true => b
def Ck.row (s : Ck) : Bool → List Int
  | false => s.xs
  | true => s.ys
section
variable {X : Cx} {c : Ctx} {Wx : WX} {G G0 : Gh} {σ : L2.St} {H H0 : Hp} {e : En} {N : List Str} {b : Bl} {k : Nat}
def eWho (s : Ck) (w : Bool) : En := ⟨s.sl (.val (.int (wI w))), []⟩
theorem ev_row (s : Ck) (w : Bool) : (ev eRow).v (eWho s w) = .ok (obj (wN w), eWho s w) := by cases w <;> rfl
theorem ev_oth (s : Ck) (w : Bool) : (ev eOth).v (eWho s w) = .ok (obj (wN (!w)), eWho s w) := by cases w <;> rfl
theorem CkAt.step {a b : Addr} {w : Slot} {s : Ck} {G' : Gh} {H' : Hp} (h : CkAt c a b w s G σ H) (st : Step c G H G' H') (ok : Ok c G' σ H' ⟨s.sl w, []⟩) : CkAt c a b w s G' σ H' :=
  ⟨ok, st.O.trans h.O, by rw [st.X]; exact h.p1, by rw [st.X]; exact h.p2⟩
theorem rep_row {a b : Addr} {W : Wd} {v : V} (hO : W.O = [a, b]) (w : Bool) (r : Rep W H v (obj (wN w))) : v = .ref (rowA a b w) := by
  cases w with
  | false =>
    cases r with
    | obj h => rw [hO] at h; cases h; rfl
  | true =>
    cases r with
    | obj h => rw [hO] at h; cases h; rfl
/-- row, others, at = rows[who], rows[1 - who], len(rows[who]) - 1 -/
def tRow (c : Ctx) : TS := fun E σ H => ∃ a b w s G, CkAt c a b (.val (.int (wI w))) s G σ H ∧ ∀ G' H', StepS c G H G' H' → CkAt c a b (.val (.int (wI w))) s G' σ H' →
  E.nx (((σ.set 7 (some (.ref (rowA a b w)))).set 8 (some (.ref (rowA a b (!w))))).set 9 (some (.int (((s.row w).length : Int) - 1)))) H'
theorem okRow : okE k c.toGd eRow := trivial
theorem okOth : okE k c.toGd eOth := by simp [okE, eOth]
theorem x_row (a : At X c N b k Wx) (st : Stmt) (h : ckM3 N b [st] = true) : PS X st (tRow c) := by
  unfold ckM3 at h
  split at h
  · rename_i x px y py z pz _ _ a' c' d' _ _ _ heq
    cases heq
    simp only [Bool.and_eq_true, decide_eq_true_eq] at h
    obtain ⟨⟨⟨⟨⟨⟨⟨⟨⟨⟨⟨⟨h1, h2⟩, h3⟩, h4⟩, h5⟩, h6⟩, h10⟩, h11⟩, h12⟩, h13⟩, h17⟩, h18⟩, h19⟩ := h
    have i1 := (sd_all eRow okRow (c := c) (k := k)).v a _ h17
    have i2 := (sd_all eOth okOth (c := c) (k := k)).v a _ h18
    obtain ⟨l1, l2, l3, l4⟩ := lc_loc a h1
    obtain ⟨k1, k2, k3, k4⟩ := lc_loc a h2
    obtain ⟨n1, n2, n3, n4⟩ := lc_loc a h3
    unfold lenM at h19
    split at h19
    · rename_i wn pw dd pc oo po
      simp only [Bool.and_eq_true] at h19
      obtain ⟨⟨g1, g2⟩, g3⟩ := h19
      have j1 := (sd_all eRow okRow (c := c) (k := k)).v a _ g2
      have j2 := (sd_all (.cst (.int 1)) trivial (c := c) (k := k)).v a _ g3
      obtain ⟨rfl, g4, g5, g6⟩ := a.gl g1
      have pl := pe_op (pos := po) op_sub (pe_callB (p := pw) (pos := pc) call_len g4 (a.free _ (by decide)) boot_len (pa_cons j1.pe pa_nil (star_cons (nice_star j1.nice))) (he := star_cons (nice_star j1.nice))) j2.pe
      refine PS.imp (L2.ps_par3 a.calm l1 l2 k2 n2 (by decide) (by decide) (by decide) (by rw [a.sc]; exact h4) (by rw [a.sc]; exact h5) (by rw [a.sc]; exact h6) (pa_cons i1.pe (pa_cons i2.pe (pa_cons pl pa_nil (star_cons rfl)) (star_cons (nice_star i2.nice))) (star_cons (nice_star i1.nice)))
        (par3_yes a.sc a.kind h4 h5 h6 h10 h11 (ne_of_ix l1 l2 k2 (by decide)) (ne_of_ix l1 l2 n2 (by decide)) (ne_of_ix l1 k2 n2 (by decide)) (nice_star i1.nice) (nice_star i2.nice) rfl h12 h13) rfl) fun E σ H ⟨a0, b0, w, s, G, at0, q⟩ => ?_
      refine ⟨G, eWho s w, at0.ok, ?_⟩
      rw [ev_row]
      intro v1 H1 G1 st1 ok1 r1
      have at1 := at0.step st1 ok1
      have e1 := rep_row at1.O w r1
      subst e1
      refine ⟨G1, eWho s w, ok1, ?_⟩
      rw [ev_oth]
      intro v2 H2 G2 st2 ok2 r2
      have at2 := at1.step st2 ok2
      have e2 := rep_row at2.O (!w) r2
      subst e2
      refine ⟨G2, eWho s w, ok2, ?_⟩
      rw [ev_row]
      intro v3 H3 G3 st3 ok3 r3
      have at3 := at2.step st3 ok3
      have e3 := rep_row at3.O w r3
      subst e3
      refine ⟨_, _, rfl, .inl ⟨vsI (s.row w), .inl (.inl ?_), rfl⟩, ?_⟩
      · cases w with
        | false => exact (ok3.pin _ at3.p1).1
        | true => exact (ok3.pin _ at3.p2).1
      · refine ⟨G3, eWho s w, ok3, ?_⟩
        show ∀ v H' G', _
        intro v4 H4 G4 st4 ok4 r4
        have at4 := at3.step st4 ok4
        cases r4
        refine ⟨_, _, rfl, rfl, ?_⟩
        refine ⟨_, _, _, rfl, ?_⟩
        have q := q G4 H4 (st1.s.trans (st2.s.trans (st3.s.trans st4.s))) at4
        simpa [vsI] using q
    · cases h19
  · cases h
end
end DV
set_option Elab.async false
set_option linter.all false
set_option maxRecDepth 100000
set_option maxHeartbeats 4000000
/-! The law's clock: its loops. -/
namespace DV
open PySem PySem.Spec PyProof.Rows L2

theorem PSs.ex {X : Cx} {l : List Stmt} {ι : Type} {t : ι → TS} (h : ∀ i, PSs X l (t i)) : PSs X l (fun E σ H => ∃ i, t i E σ H) :=
  ⟨fun pins s σ H D I q => by obtain ⟨i, q⟩ := q; exact (h i).run pins s σ H D I q⟩
section
variable {X : Cx} {c : Ctx} {Wx : WX} {G G0 : Gh} {σ : L2.St} {H H0 : Hp} {e : En} {N : List Str} {b : Bl} {k : Nat} {I : S}
def tBody (c : Ctx) (I : S) : TS := fun E σ H => ∃ a b w s G s', CkS c a b ∧ CkAt c a b (.val (.int (wI w))) s G σ H ∧ ckTurn I w s = .ok s' ∧ ∀ σ' H' G', StepS c G H G' H' → CkAt c a b .no s' G' σ' H' → E.nx σ' H'
theorem At.lend (a : At X c N b k Wx) (i : Nat) (q : Addr) : At X (c.lend i q) N b k Wx := ⟨a.hN, a.nd, a.db, a.sc, a.kind, a.fn, a.hK, a.hmg, a.hP, a.hw, a.hB, a.calm, a.room, a.tk, a.free, a.lam⟩
theorem x_body {s3 s4 : Stmt} (a : At X c N b k Wx) (hI : okS k c.toGd I) (h3 : ckM3 N b [s3] = true) (h4 : mS N b I [s4] = true) : PSs X [s3, s4] (tBody c I) := by
  have p4 : PSs X [s4] (fun E σ H => ∃ p : Addr × Addr, tS ((c.lend 7 p.1).lend 8 p.2) Wx (evS I) E σ H) := PSs.ex fun p => (ss_all (c := (c.lend 7 p.1).lend 8 p.2) I hI).all ((a.lend 7 p.1).lend 8 p.2) [s4] h4
  refine PSs.imp (pss_cons (x_row a s3 h3) p4) fun E σ H ⟨a0, b0, w, s, G, s', cs, at0, q, hE⟩ => ⟨a0, b0, w, s, G, at0, fun G1 H1 st1 at1 => ?_⟩
  cases w with
  | false =>
    obtain ⟨G2, ok2, st2⟩ := ck_in (r := s.xs) (o := s.ys) at1.ok at1.p1 at1.p2 cs
    refine ⟨(a0, b0), G2, ckIn s 0 s.xs s.ys, ok2, ?_⟩
    unfold ckTurn at q
    dsimp only at q
    cases qe : evS I (ckIn s 0 s.xs s.ys) with
    | next e =>
      rw [qe] at q
      intro σ' H' G' st' ok'
      obtain ⟨G3, ok3, p1, p2, st3⟩ := ck_out ok' q cs
      have st : StepS c G H G3 H' := st1.trans (st2.trans (StepS.trans (c := c) ⟨st'.O, st'.keep⟩ st3))
      exact hE _ _ _ st ⟨ok3, st.O.trans at0.O, p1, p2⟩
    | _ => rw [qe] at q; cases q
  | true =>
    obtain ⟨G2, ok2, st2⟩ := ck_in (r := s.ys) (o := s.xs) at1.ok at1.p2 at1.p1 cs.swap
    refine ⟨(b0, a0), G2, ckIn s 1 s.ys s.xs, ok2, ?_⟩
    unfold ckTurn at q
    dsimp only at q
    cases qe : evS I (ckIn s 1 s.ys s.xs) with
    | next e =>
      rw [qe] at q
      dsimp only at q
      cases qo : ckOut e with
      | ok s1 =>
        rw [qo] at q
        cases q
        intro σ' H' G' st' ok'
        obtain ⟨G3, ok3, p1, p2, st3⟩ := ck_out ok' qo cs.swap
        have st : StepS c G H G3 H' := st1.trans (st2.trans (StepS.trans (c := c) ⟨st'.O, st'.keep⟩ st3))
        exact hE _ _ _ st ⟨ok3, st.O.trans at0.O, p2, p1⟩
      | err m => rw [qo] at q; cases q
      | bad => rw [qo] at q; cases q
    | _ => rw [qe] at q; cases q
def l01 : E := .lst (.cons (.cst (.int 0)) (.cons (.cst (.int 1)) .nil))
def tRnd (c : Ctx) (I : S) : TS := fun E σ H => ∃ a b s G s', CkS c a b ∧ CkAt c a b .no s G σ H ∧ ckRest I 0 s = .ok s' ∧ ∀ σ' H' G', StepS c G H G' H' → CkAt c a b .no s' G' σ' H' → E.nx σ' H'
theorem ok01 : okE k c.toGd l01 := by simp [okE, l01]
theorem x_rnd {tg it : Expr} {l : List Stmt} {pos : Pos} (a : At X c N b k Wx) (hb : PSs X.nox l (tBody c I)) (hg : mTg N b (.name 6) tg = true) (hi : (mt N l01).i b tg it = true) : PS X (.For tg it l [] pos) (tRnd c I) := by
  have ii := (sd_all l01 ok01 (c := c) (k := k)).i a.nox _ _ hi
  refine PS.nox (PS.imp (ps_for PassesOwn.never a.calm ii.1 ((a.nox.tg_all (.name 6)).1 _ hg) hb (nice_fold ii.2)) fun E σ H ⟨a0, b0, s, G, s', cs, at0, q, hE⟩ => ⟨G, ⟨s.sl .no, []⟩, at0.ok, ?_⟩)
  show ∀ J H' G' P, Step c G H G' H' → Ok c G' σ H' ⟨s.sl .no, []⟩ → Src c J [.int 0, .int 1] P → P G' H' → _
  intro J H1 G1 P st1 ok1 src hP
  have at1 := at0.step st1 ok1
  refine ⟨fun i m σ H => i + m = 2 ∧ ∃ G2 s2, CkAt c a0 b0 .no s2 G2 σ H ∧ StepS c G1 H1 G2 H ∧ P G2 H ∧ ckRest I i s2 = .ok s', ⟨2, rfl, G1, s, at1, .refl _ _ _, hP, q⟩, fun i m σ H ⟨hm, G2, s2, at2, st2, hP, q⟩ => ?_⟩
  have gen : ∀ (w : Bool) (s3 : Ck), ckTurn I w s2 = .ok s3 → ckRest I (i + 1) s3 = .ok s' → i = (wN w) → (J.stop i H ∧ E.nx σ H) ∨ (J.go i H ∧ ∃ N : L2.St → Hp → Prop, (∀ σ' H', N σ' H' → ∃ m', m' < m ∧ (i + 1) + m' = 2 ∧ ∃ G2 s2, CkAt c a0 b0 .no s2 G2 σ' H' ∧ StepS c G1 H1 G2 H' ∧ P G2 H' ∧ ckRest I (i + 1) s2 = .ok s') ∧ ∀ x H', J.yld i H x H' → tG c (.name 6) x σ H' fun σ2 H2 => tBody c I { E with nx := N, ct := N, bk := E.nx } σ2 H2) := fun w s3 qt qr hi => by
    have hlt : i < ([.int 0, .int 1] : List D).length := by subst hi; cases w <;> decide
    refine .inr ⟨src.go i hP hlt, fun σ H => ∃ G2 s2, CkAt c a0 b0 .no s2 G2 σ H ∧ StepS c G1 H1 G2 H ∧ P G2 H ∧ ckRest I (i + 1) s2 = .ok s', fun σ' H' h => ⟨m - 1, by subst hi; cases w <;> simp [wN] at hm <;> omega, by subst hi; cases w <;> simp [wN] at hm ⊢ <;> omega, h⟩, fun x H' y => ?_⟩
    obtain ⟨sm, rx⟩ := src.yld i at2.ok.zl hP y (List.getElem?_eq_getElem hlt)
    have hd : ([.int 0, .int 1] : List D)[i] = .int (wI w) := by subst hi; cases w <;> rfl
    rw [hd] at rx
    refine ⟨G2, ⟨s2.sl .no, []⟩, .int (wI w), ⟨s2.sl (.val (.int (wI w))), []⟩, at2.ok.same sm, rx, rfl, fun σ3 H3 G3 _ hX st3 ok3 => ?_⟩
    have s0 : StepS c G2 H G3 H3 := (Step.s (.of_ext (.of sm))).trans st3
    refine ⟨a0, b0, w, s2, G3, s3, cs, ⟨ok3, st3.O.trans at2.O, by rw [hX.2]; exact at2.p1, by rw [hX.2]; exact at2.p2⟩, qt, fun σ' H' G' st at' => ⟨G', s3, at', st2.trans (s0.trans st), src.stay at2.ok.zl hP (s0.trans st), qr⟩⟩
  match i, q, gen with
  | 0, q, gen =>
    have q : (ckTurn I false s2).bind (ckTurn I true) = .ok s' := q
    cases qt : ckTurn I false s2 with
    | ok s3 => rw [qt] at q; exact gen false s3 qt q rfl
    | err m => rw [qt] at q; cases q
    | bad => rw [qt] at q; cases q
  | 1, q, gen => exact gen true s' q rfl rfl
  | i + 2, q, gen =>
    have hm0 : i = 0 ∧ m = 0 := by omega
    obtain ⟨rfl, rfl⟩ := hm0
    have q : Out.ok s2 = Out.ok s' := q
    cases q
    exact .inl ⟨src.stop _ hP (by decide), hE _ _ _ (st1.s.trans st2) at2⟩
/-- an assignment keeps what is held -/
theorem x_setX {t : Tg} {m : E} {st : Stmt} (a : At X c N b k Wx) (hm : okE k c.toGd m) (h : mS N b (.set t m) [st] = true) : PS X st (fun E σ H => ∃ G e, Ok c G σ H e ∧ ∃ d e1 e2, (ev m).v e = .ok (d, e1) ∧ asg t d e1 = .ok e2 ∧ ∀ σ' H' G', G'.X = G.X → StepS c G H G' H' → Ok c G' σ' H' e2 → E.nx σ' H') := by
  simp only [mS] at h
  split at h
  · rename_i tg e p heq
    cases heq
    simp only [Bool.and_eq_true] at h
    obtain ⟨⟨⟨h1, h2⟩, h3⟩, h4⟩ := h
    have i1 := (sd_all m hm).v a _ h2
    have sw : swapsWith e (some tg) p.line X.env = pure false := by
      cases tg with
      | Name x px => exact swaps_name a.sc a.kind i1.nice h4
      | _ => exact swaps_tg i1.nice fun _ _ z => nomatch z
    refine PS.imp (ps_asg i1.pe ((a.tg_all t).1 _ h1) (sole sw) (no_par a.sc h3 (mTg_notList h1)) (by rw [assign_cons (noStar_tg h1)]; rfl)) fun E σ H ⟨G, e, ok, d, e1, e2, q1, q2, p⟩ => ⟨G, e, ok, ?_⟩
    rw [q1]
    intro v H1 G1 st1 ok1 r1
    exact ⟨G1, e1, d, e2, ok1, r1, q2, fun σ' H' G' _ hX st ok' => p σ' H' G' (hX.2.trans st1.X) (st1.s.trans st) ok'⟩
  · cases h
def tClk (c : Ctx) (I : S) : TS := fun E σ H => ∃ a b s G s' n, CkS c a b ∧ CkAt c a b .no s G σ H ∧ ckLoop I n s = .ok s' ∧ ∀ σ' H' G', StepS c G H G' H' → CkAt c a b .no s' G' σ' H' → E.nx σ' H'
theorem x_clk {tg it cc : Expr} {s2 s3 s4 : Stmt} {p1 p2 : Pos} (a : At X c N b k Wx) (hI : okS k c.toGd I) (h3 : ckM3 N b [s3] = true) (h4 : mS N b I [s4] = true) (hg : mTg N b (.name 6) tg = true) (hi : (mt N l01).i b tg it = true) (h2 : mS N b (.set (.name 5) (.cst (.bool false))) [s2] = true) (hc : (mt N (.var 5)).v b cc = true) :
    PS X (.While cc [s2, .For tg it [s3, s4] [] p1] [] p2) (tClk c I) := by
  refine PS.nox (PS.imp (ps_while PassesOwn.never ((sd_all (.var 5) trivial (c := c) (k := k)).v a.nox _ hc).pt (pss_cons (x_setX a.nox (m := .cst (.bool false)) trivial h2) (pss_one (x_rnd (I := I) a.nox (x_body a.nox.nox hI h3 h4) hg hi)))) fun E σ H1 ⟨a0, b0, s, G, s', n, cs, at0, q, hE⟩ => ?_)
  refine ⟨fun m σ H => ∃ G2 s2, CkAt c a0 b0 .no s2 G2 σ H ∧ StepS c G H1 G2 H ∧ ckLoop I m s2 = .ok s', ⟨n, G, s, at0, .refl _ _ _, q⟩, fun m σ H2 ⟨G2, s2, at2, st2, q⟩ => ?_⟩
  cases m with
  | zero => cases q
  | succ m =>
    refine ⟨G2, ⟨s2.sl .no, []⟩, at2.ok, ?_⟩
    rw [show (ev (.var 5)).t ⟨s2.sl .no, []⟩ = .ok (s2.mo, ⟨s2.sl .no, []⟩) from rfl]
    intro v H3 G3 st3 ok3 rv
    have at3 := at2.step st3 ok3
    have rv : v = s2.mo := rv
    subst rv
    unfold ckLoop at q
    cases qm : s2.mo with
    | false =>
      rw [qm, if_neg (by decide)] at q
      cases q
      rw [if_neg (by decide)]
      exact hE _ _ _ (st2.trans st3.s) at3
    | true =>
      rw [qm, if_pos rfl] at q
      rw [if_pos rfl]
      cases qr : ckRest I 0 { s2 with mo := false } with
      | ok s4 =>
        rw [qr] at q
        refine ⟨fun σ H => ∃ G2 s2, CkAt c a0 b0 .no s2 G2 σ H ∧ StepS c G H1 G2 H ∧ ckLoop I m s2 = .ok s', fun σ' H' h => ⟨m, Nat.lt_succ_self m, h⟩, G3, ⟨s2.sl .no, []⟩, at3.ok, .bool false, ⟨s2.sl .no, []⟩, ⟨Ck.sl { s2 with mo := false } .no, []⟩, rfl, rfl, fun σ' H' G' hX st ok' => ?_⟩
        refine ⟨a0, b0, { s2 with mo := false }, G', s4, cs, ⟨ok', st.O.trans at3.O, by rw [hX]; exact at3.p1, by rw [hX]; exact at3.p2⟩, qr, fun σ5 H5 G5 st5 at5 => ⟨G5, s4, at5, st2.trans (st3.s.trans (st.trans st5)), q⟩⟩
      | err m => rw [qr] at q; cases q
      | bad => rw [qr] at q; cases q
end
end DV
set_option Elab.async false
set_option linter.all false
set_option maxRecDepth 100000
set_option maxHeartbeats 4000000
/-! The law's clock: its start, its end, the block. -/
namespace DV
open PySem PySem.Spec PyProof.Rows L2

def l0 : E := .lst (.cons (.cst (.int 0)) .nil)
def rowsM (N : List Str) (b : Bl) : Expr → Bool
  | .List [p, q] _ => (mt N l0).v b p && (mt N l0).v b q
  | _ => false
def ckM1 (N : List Str) (b : Bl) (l : List Stmt) : Bool := match l with
  | [.Assign [.Tuple [.Name x px, .Name y py] _ _] (.Tuple [a', c'] _ _) _] => lcB N b 4 x && lcB N b 5 y && decide (b.sc.names.lookup x = some .local) && decide (b.sc.names.lookup y = some .local) && (px.line == py.line)
      && !(foldedForSure 8 a' && foldedForSure 8 c') && !(constantsAlone 8 a' && constantsAlone 8 c') && rowsM N b a' && (mt N (.cst (.bool true))).v b c'
  | _ => false
def ckM (I : S) (N : List Str) (b : Bl) (l : List Stmt) : Bool := match l with
  | [s1, .While cc [s2, .For tg it [s3, s4] [] _] [] _, .Return (some (.Name x _)) _] => ckM1 N b [s1] && (mt N (.var 5)).v b cc && mS N b (.set (.name 5) (.cst (.bool false))) [s2] && mTg N b (.name 6) tg && (mt N l01).i b tg it && ckM3 N b [s3] && mS N b I [s4] && nmB N b 4 x
  | _ => false
section
variable {X : Cx} {c : Ctx} {Wx : WX} {G G0 : Gh} {σ : L2.St} {H H0 : Hp} {e : En} {N : List Str} {b : Bl} {k : Nat} {I : S}
def ckE (s : Ck) : En := ⟨[.val s.pl, .val s.fl, .val s.pa, .val s.wh, .no, .no, .no, .no, .no, .no, .no, .no, .no, .no], []⟩
def tStart (c : Ctx) : TS := fun E σ H => ∃ G s, Ok c G σ H (ckE s) ∧ (∀ x ∈ (ckE s).sl, plainSl x = true) ∧ ∀ σ' H' G' a b, CkS c a b → CkAt c a b .no ⟨s.pl, s.fl, s.pa, s.wh, [0], [0], true⟩ G' σ' H' → KeepO c G H G' H' → E.nx σ' H'
theorem ok0 : okE k c.toGd l0 := by simp [okE, l0]
theorem one_new {v : V} {G1 : Gh} (g : Gv c G G1 H true v (.list [.int 0])) : ∃ a, v = .ref a ∧ G1.X = (a, [.int 0]) :: G.X ∧ New c a ∧ ∀ q ∈ G.X, q.1 ≠ a := by
  obtain ⟨a, vs, ds, gx, e1, e2, rr, nw, ne⟩ := g
  cases e2
  have := vsI_of (ns := [0]) rr
  subst this
  exact ⟨a, e1, gx, nw, ne⟩
theorem noPP {s : Ck} (ok : Ok c G σ H (ckE s)) : ∀ p, p ∉ c.PP := fun p hp => by
  obtain ⟨_, ds, h⟩ := ok.arg p hp
  have h := List.mem_of_getElem? h
  simp [ckE] at h
theorem x_start (a : At X c N b k Wx) (st : Stmt) (h : ckM1 N b [st] = true) : PS X st (tStart c) := by
  unfold ckM1 at h
  split at h
  · rename_i x px y py _ _ a' c' _ _ _ heq
    cases heq
    simp only [Bool.and_eq_true, decide_eq_true_eq] at h
    obtain ⟨⟨⟨⟨⟨⟨⟨⟨h1, h2⟩, h3⟩, h4⟩, h6⟩, h7⟩, h8⟩, h11⟩, h12⟩ := h
    have i2 := (sd_all (.cst (.bool true)) trivial (c := c) (k := k)).v a _ h12
    obtain ⟨l1, l2, l3, l4⟩ := lc_loc a h1
    obtain ⟨k1, k2, k3, k4⟩ := lc_loc a h2
    unfold rowsM at h11
    split at h11
    · rename_i p q pp
      simp only [Bool.and_eq_true] at h11
      have j1 := (sd_all l0 ok0 (c := c) (k := k)).v a _ h11.1
      have j2 := (sd_all l0 ok0 (c := c) (k := k)).v a _ h11.2
      refine PS.imp (ps_par a.calm l1 l2 k2 (by decide) (by rw [a.sc]; exact h3) (by rw [a.sc]; exact h4) (pa_cons (pe_lst (pa_cons (j1.fr rfl) (pa_cons (j2.fr rfl) pa_nil (star_cons (nice_star j2.nice))) (star_cons (nice_star j1.nice)))) (pa_cons i2.pe pa_nil (star_cons (nice_star i2.nice))) (star_cons rfl))
        (par2_yes a.sc a.kind h3 h4 h6 (ne_of_ix l1 l2 k2 (by decide)) rfl (nice_star i2.nice) h7 h8) rfl) fun E σ H ⟨G, s, ok, pl, hE⟩ => ?_
      refine ⟨G, ckE s, ok, ?_⟩
      show ∀ v H' G', G'.M = G.M → StepS c G H G' H' → Ok c G' σ H' (ckE s) → Gv c G G' H' true v (.list [.int 0]) → _
      intro v1 H1 G1 hM1 st1 ok1 g1
      obtain ⟨r1, rfl, x1, nw1, ne1⟩ := one_new g1
      refine ⟨G1, ckE s, ok1, ?_⟩
      show ∀ v H' G', G'.M = G1.M → StepS c G1 H1 G' H' → Ok c G' σ H' (ckE s) → Gv c G1 G' H' true v (.list [.int 0]) → _
      intro v2 H2 G2 hM2 st2 ok2 g2
      obtain ⟨r2, rfl, x2, nw2, ne2⟩ := one_new g2
      refine ⟨by rw [sz]; exact (by decide : (2 : Nat) ≤ 16777216), fun q hq => ?_⟩
      have hn : ∀ o, H2 q = some o → isTbl o := fun o z => by rw [hq] at z; cases z
      have okO := Ok.setO ok2 [r1, r2] pl rfl
      obtain ⟨nw3, ne3⟩ := new_of okO hn
      have s3 : StepS c ⟨G2.M, [r1, r2], G2.X⟩ H2 ⟨G2.M, [r1, r2], (q, [.ref r1, .ref r2]) :: G2.X⟩ (upd H2 q (.lst [.ref r1, .ref r2])) := hide_step (G := ⟨G2.M, [r1, r2], G2.X⟩) hn (.of (same_upd hq))
      have ok3 := okO.hide hn (.of (same_upd hq)) (okO.fr.2.ext (same_upd hq)) (upd_same (o := .lst [.ref r1, .ref r2]))
      refine ⟨_, ckE s, ok3, ?_⟩
      show ∀ v H' G', Step c _ _ G' H' → Ok c G' σ H' (ckE s) → Rep (c.wd G') H' v (.bool true) → _
      intro v4 H4 G4 st4 ok4 r4
      cases r4
      refine ⟨_, _, rfl, ?_⟩
      have x4 : G4.X = (q, [.ref r1, .ref r2]) :: G2.X := st4.X
      have o4 : G4.O = [r1, r2] := st4.O
      obtain ⟨ok5, st5⟩ := ok4.claim (i := 4) (S := .own [obj 0, obj 1]) rfl x4 (.cons (.obj (by show G4.O[0]? = _; rw [o4]; rfl)) (.cons (.obj (by show G4.O[1]? = _; rw [o4]; rfl)) .nil)) nw3 ne3 rfl
      have ok6 := ok5.set (i := 5) (v := .bl true) (d := .bool true) rfl (.bl true)
      refine hE _ _ _ r1 r2 ⟨nw1, nw2, fun z => ne2 (r1, [.int 0]) (by rw [x1]; exact .head _) z, noPP ok⟩ ⟨ok6, o4, ?_, ?_⟩ ?_
      · show (r1, [V.int 0]) ∈ G2.X
        rw [x2, x1]; exact .tail _ (.head _)
      · show (r2, [V.int 0]) ∈ G2.X
        rw [x2]; exact .head _
      · have k0 : KeepO c G H G H := fun b o h d n => ⟨h, n⟩
        have k2 := (k0.step st1).step st2
        have k3 : KeepO c G H ⟨G2.M, [r1, r2], G2.X⟩ H2 := k2.zm fun b z => z
        exact (((k3.step s3).step st4.s).step st5).step (StepS.drop 5)
    · cases h11
  · cases h
def tEnd (c : Ctx) : TS := fun E σ H => ∃ a b s G0 G H0, CkS c a b ∧ CkAt c a b .no s G σ H ∧ KeepO c G0 H0 G H ∧ PostS c (fun _ _ _ _ => False) G0 H0 (.ret (.list [.list (isD s.xs), .list (isD s.ys)]) noEn) E
theorem x_end {x : Str} {p q : Pos} (a : At X c N b k Wx) (h : nmB N b 4 x = true) : PS X (.Return (some (.Name x p)) q) (tEnd c) := by
  obtain ⟨n1, n2, n3, n4⟩ := a.nm h
  refine PS.imp (ps_ret (pe_var n1 n2 n3 n4)) fun E σ H ⟨a0, b0, s, G0, G, H0, cs, at0, kp, hE⟩ => ?_
  have ok := at0.ok
  obtain ⟨m, x, h1, h2, r, vs, rfl, rfl, e3, rr⟩ := ok.slot 4 _ rfl
  refine ⟨.ref r, h2, ?_⟩
  have ev : vs = [.ref a0, .ref b0] := by
    cases rr with
    | cons u1 rr =>
      cases rr with
      | cons u2 rr =>
        cases rr
        rw [rep_row (w := false) at0.O u1, rep_row (w := true) at0.O u2]; rfl
  subst ev
  have zz : ∀ b, Zm c ⟨List.replicate 14 none, G0.O, []⟩ b → c.Z b := fun b z => by
    rcases z with z | z | ⟨_, z⟩
    · exact z
    · cases List.eq_of_mem_replicate z
    · cases z
  have lσ : σ.length = 14 := by rw [← ok.len]; rfl
  refine hE σ _ H ⟨List.replicate 14 none, G0.O, []⟩ ⟨rfl, fun b o h d n => let ⟨p, q⟩ := kp b o h d n; ⟨p, fun z => q (.inl (zz b z))⟩⟩ ?_ ?_
  · refine ⟨by rw [lσ]; rfl, by rw [lσ]; rfl, fun j s' q => ?_, fun j k a h1 h2 => ?_, ok.fr, fun b z => ok.zl b (.inl (zz b z)), fun j a h => ?_, fun j ds b q h => ?_, fun p hp => (by cases hp), fun p hp => (cs.hp p hp).elim, fun n k fs q => (by simp [noEn] at q)⟩
    · have q : (List.replicate 14 Slot.no)[j]? = some s' := q
      rw [List.getElem?_replicate] at q
      split at q
      · rename_i hj
        cases q
        exact ⟨none, σ[j]'(by omega), by rw [List.getElem?_replicate, if_pos hj], List.getElem?_eq_getElem (by omega), rfl⟩
      · cases q
    · have h1 := List.mem_of_getElem? h1
      cases List.eq_of_mem_replicate h1
    · have h1 := List.mem_of_getElem? h
      cases List.eq_of_mem_replicate h1
    · have h1 := List.mem_of_getElem? h
      cases List.eq_of_mem_replicate h1
  · refine .lst (fun z => ok.mine 4 _ r rfl h1 (zz r z)) e3 (.cons (.lst (fun z => cs.na.z (zz _ z)) (ok.pin _ at0.p1).1 (reps_vsI _)) (.cons (.lst (fun z => cs.nb.z (zz _ z)) (ok.pin _ at0.p2).1 (reps_vsI _)) .nil))
def clock (I : S) : Bm := ⟨ckF I, ckM I⟩
theorem clock_ok {g : Gd} (hI : okS k g I) : BmOk k g (clock I) := by
  intro c X N b Wx hg a l h
  subst hg
  have h : ckM I N b l = true := h
  unfold ckM at h
  split at h
  · simp only [Bool.and_eq_true] at h
    obtain ⟨⟨⟨⟨⟨⟨⟨h1, h2⟩, h3⟩, h4⟩, h5⟩, h6⟩, h7⟩, h8⟩ := h
    refine PSs.imp (pss_cons (x_start a _ h1) (pss_cons (x_clk a hI h6 h7 h4 h5 h3 h2) (pss_one (x_end a h8)))) fun E σ H ⟨G, e, ok, p⟩ => ?_
    have p : PostS c Wx G H (ckF I e) E := p
    unfold ckF at p
    split at p
    · rename_i pl fl pa wh p
      split at p
      · rename_i hp
        simp only [Bool.and_eq_true] at hp
        unfold ckFrom at p
        split at p
        · rename_i s' q
          refine ⟨G, ⟨pl, fl, pa, wh, [0], [0], true⟩, ok, fun x hx => ?_, fun σ1 H1 G1 r1 r2 cs at1 kp => ⟨r1, r2, _, G1, s', 1000000, cs, at1, q, fun σ2 H2 G2 st2 at2 => ⟨r1, r2, s', G, G2, H, cs, at2, kp.step st2, p⟩⟩⟩
          simp [ckE] at hx
          rcases hx with rfl | rfl | rfl | rfl | rfl
          · exact hp.1.1.1
          · exact hp.1.1.2
          · exact hp.1.2
          · exact hp.2
          · rfl
        · exact p.elim
      · exact p.elim
    · exact p.elim
  · cases h
end
end DV
set_option Elab.async false
set_option linter.all false
set_option maxRecDepth 100000
set_option maxHeartbeats 4000000
/-! max(l), l a list of ints: a form. -/
namespace DV
open PySem PySem.Spec PyProof.Rows L2
def maxI : List Int → Int
  | [] => 0
  | [x] => x
  | x :: y :: r => if maxI (y :: r) < x then x else maxI (y :: r)
theorem maxI_spec : ∀ (l : List Int), l ≠ [] → maxI l ∈ l ∧ ∀ x ∈ l, x ≤ maxI l
  | [], h => absurd rfl h
  | [x], _ => ⟨by simp [maxI], fun y hy => by simp at hy; subst hy; simp [maxI]⟩
  | x :: y :: r, _ => by
    obtain ⟨h1, h2⟩ := maxI_spec (y :: r) (by simp)
    unfold maxI
    split
    · rename_i q
      refine ⟨by simp, fun z hz => ?_⟩
      rcases List.mem_cons.mp hz with rfl | hz
      · exact Int.le_refl _
      · have := h2 z hz; omega
    · rename_i q
      refine ⟨List.mem_cons_of_mem _ h1, fun z hz => ?_⟩
      rcases List.mem_cons.mp hz with rfl | hz
      · omega
      · exact h2 z hz
def maxLD : List D → Out D
  | [.list ds] => (match intsD ds with
    | some (n :: ns) => .ok (.int (maxI (n :: ns)))
    | _ => .bad)
  | _ => .bad
def mMax (_ : List Str) (b : Bl) : Expr → Option (List Expr)
  | .Call (.Name x _) [a] [] _ => if glB b "max" x = true ∧ noStar a = true then some [a] else none
  | _ => none
def maxF : Fm := ⟨maxLD, mMax⟩
theorem maxF_ok {k : Nat} {g : Gd} : FmOk k g maxF := by
  intro c X N b Wx hc at_ e l hm
  subst hc
  have hm : mMax N b e = some l := hm
  unfold mMax at hm
  split at hm
  · rename_i x px a pos
    split at hm
    · rename_i hg
      obtain ⟨g1, g3⟩ := hg
      cases hm
      obtain ⟨rfl, a1, a2, a3⟩ := at_.gl g1
      refine ⟨rfl, rfl, fun fs h => ?_⟩
      have hK := at_.hK
      refine PE.imp (pe_callB (cr_max at_.calm) a1 (at_.free _ (by decide)) PyProof.Rows.boot_max h a3 a2 (star_cons g3) (star_all rfl)) fun σ H Q hq => ?_
      obtain ⟨G, e, ok, p⟩ := hq
      refine ⟨G, e, ok, (Post.bind (R := Reps) p).mono fun vs H1 ⟨G1, d1, e1, st1, ok1, r1, p1⟩ => ?_⟩
      have p1 : Post Rep c Wx G1 σ H1 ((maxLD d1).at e1) Q := p1
      cases q : maxLD d1 with
      | err m =>
        unfold maxLD at q
        repeat' (first | cases q | split at q)
      | bad => rw [q] at p1; exact p1.elim
      | ok r =>
        rw [q] at p1
        have p2 : ∀ v H' G', Step c G1 H1 G' H' → Ok c G' σ H' e1 → Rep (c.wd G') H' v r → Q v H' := p1
        clear p1
        unfold maxLD at q
        split at q
        · rename_i ds
          split at q
          · rename_i n ns en
            cases q
            obtain ⟨v1, rfl, rv⟩ := reps1 r1
            cases rv with
            | @lst a' xs ds' hz1 ha rr =>
              have ed := intsD_eq en
              subst ed
              have ex := reps_int_inv rr
              subst ex
              refine ⟨a', n :: ns, rfl, .inl (.inl ha), by simp, fun m hm hle => ?_⟩
              obtain ⟨s1, s2⟩ := maxI_spec (n :: ns) (by simp)
              have e : m = maxI (n :: ns) := Int.le_antisymm (s2 m hm) (hle _ s1)
              subst e
              exact p2 _ H1 G1 (.of_ext (.of (Same.refl H1))) ok1 (.int _)
          · cases q
        · cases q
    · cases hm
  · cases hm
end DV
set_option Elab.async false
set_option linter.all false
set_option maxRecDepth 100000
set_option maxHeartbeats 4000000
/-! Plain evaluation: rows for simp. -/
namespace DV.Pl
open PySem PySem.Spec PyProof.Rows L2 DV

@[simp] theorem Out.bind_ok {s t : Type} (x : s) (f : s → Out t) : (Out.ok x).bind f = f x := (rfl)
@[simp] theorem Out.bind_err {s t : Type} (c : Str) (f : s → Out t) : (Out.err c : Out s).bind f = .err c := (rfl)
@[simp] theorem Out.bind_bad {s t : Type} (f : s → Out t) : (Out.bad : Out s).bind f = .bad := (rfl)
@[simp] theorem Out.so_ok {s : Type} (x : s) (f : s → SO) : (Out.ok x).so f = f x := (rfl)
@[simp] theorem Out.so_err {s : Type} (c : Str) (f : s → SO) : (Out.err c : Out s).so f = .err c := (rfl)
@[simp] theorem Out.so_bad {s : Type} (f : s → SO) : (Out.bad : Out s).so f = .bad := (rfl)
@[simp] theorem Out.at_ok {s : Type} (x : s) (e : En) : (Out.ok x).at e = .ok (x, e) := (rfl)
@[simp] theorem Out.at_err {s : Type} (c : Str) (e : En) : (Out.err c : Out s).at e = .err c := (rfl)
@[simp] theorem Out.at_bad {s : Type} (e : En) : (Out.bad : Out s).at e = .bad := (rfl)
@[simp] theorem Out.map_ok {s t : Type} (x : s) (f : s → t) : (Out.ok x).map f = .ok (f x) := (rfl)
@[simp] theorem Out.map_err {s t : Type} (c : Str) (f : s → t) : (Out.err c : Out s).map f = .err c := (rfl)
@[simp] theorem Out.map_bad {s t : Type} (f : s → t) : (Out.bad : Out s).map f = .bad := (rfl)
@[simp] theorem Out.noErr_ok {s : Type} (x : s) : (Out.ok x).noErr = .ok x := (rfl)
def bnd (a : SO) (f : En → SO) : SO := match a with
  | .next e => f e
  | r => r
@[simp] theorem bnd_next (e : En) (f : En → SO) : bnd (SO.next e) f = f e := (rfl)
@[simp] theorem bnd_ret (d : D) (e : En) (f : En → SO) : bnd (SO.ret d e) f = .ret d e := (rfl)
@[simp] theorem bnd_retf (d : List D) (e : En) (f : En → SO) : bnd (SO.retf d e) f = .retf d e := (rfl)
@[simp] theorem bnd_reto (i : Nat) (e : En) (f : En → SO) : bnd (SO.reto i e) f = .reto i e := (rfl)
@[simp] theorem bnd_err (c : Str) (f : En → SO) : bnd (SO.err c) f = .err c := (rfl)
@[simp] theorem bnd_brk (e : En) (f : En → SO) : bnd (SO.brk e) f = .brk e := (rfl)
@[simp] theorem bnd_bad (f : En → SO) : bnd (SO.bad) f = .bad := (rfl)
@[simp] theorem SO.noErr_next (e : En) : (SO.next e).noErr = .next e := (rfl)
@[simp] theorem SO.noErr_ret (d : D) (e : En) : (SO.ret d e).noErr = .ret d e := (rfl)
@[simp] theorem SO.noErr_retf (d : List D) (e : En) : (SO.retf d e).noErr = .retf d e := (rfl)
/-! continuations by name: simp must not look into them before they get their value -/
def k1 (g : D → Out D) (p : D × En) : Out (D × En) := (g p.1).at p.2
def k2 (g : D → D → Out D) (b : E) (p : D × En) : Out (D × En) := ((ev b).v p.2).bind (k1 (g p.1))
def kf (f : List D → Out D) (p : List D × En) : Out (D × En) := (f p.1).at p.2
def kl (f : List D → Out (List D)) (p : List D × En) : Out (D × En) := ((f p.1).map PyData.list).at p.2
def kb (e : En) (x : D) : Out (Bool × En) := (boolD x).at e
def kt1 (g : D → Out D) (p : D × En) : Out (Bool × En) := (g p.1).bind (kb p.2)
def kt2 (g : D → D → Out D) (b : E) (p : D × En) : Out (Bool × En) := ((ev b).v p.2).bind (kt1 (g p.1))
def kT (p : D × En) : Out (Bool × En) := (truthD p.1).at p.2
def kP (p : D × En) : Out (Option Int × En) := (partD p.1).at p.2
def kI (p : D × En) : Out (List D × En) := (itemsD p.1).at p.2
def kc3 (g : D → D → Out D) (c : E) (y : D) (e : En) (t : Bool) : Out (D × En) := if t = true then ((ev c).v e).bind (k1 (g y)) else .ok (.bool false, e)
def kc2 (g : D → D → Out D) (c : E) (y : D) (e : En) (k : D) : Out (D × En) := (boolD k).bind (kc3 g c y e)
def kc1 (o g : D → D → Out D) (c : E) (x : D) (p : D × En) : Out (D × En) := (o x p.1).bind (kc2 g c p.1 p.2)
def kc0 (o g : D → D → Out D) (b c : E) (p : D × En) : Out (D × En) := ((ev b).v p.2).bind (kc1 o g c p.1)
def kd3 (g : D → D → Out D) (c : E) (y : D) (e : En) (t : Bool) : Out (Bool × En) := if t = true then ((ev c).v e).bind (kt1 (g y)) else .ok (false, e)
def kd2 (g : D → D → Out D) (c : E) (y : D) (e : En) (k : D) : Out (Bool × En) := (boolD k).bind (kd3 g c y e)
def kd1 (o g : D → D → Out D) (c : E) (x : D) (p : D × En) : Out (Bool × En) := (o x p.1).bind (kd2 g c p.1 p.2)
def kd0 (o g : D → D → Out D) (b c : E) (p : D × En) : Out (Bool × En) := ((ev b).v p.2).bind (kd1 o g c p.1)
def kn1 (e : En) (c : Bool) : Out (D × En) := .ok (.bool (!c), e)
def kn (p : D × En) : Out (D × En) := (truthD p.1).bind (kn1 p.2)
def kN (p : Bool × En) : Out (Bool × En) := .ok (!p.1, p.2)
def ka1 (b : E) (e : En) (c : Bool) : Out (D × En) := if c = true then (ev b).v e else .ok (.bool false, e)
def ka (b : E) (p : D × En) : Out (D × En) := (boolD p.1).bind (ka1 b p.2)
def kA (b : E) (p : Bool × En) : Out (Bool × En) := if p.1 = true then (ev b).t p.2 else .ok (false, p.2)
def ko1 (b : E) (e : En) (c : Bool) : Out (D × En) := if c = true then .ok (.bool true, e) else (ev b).v e
def ko (b : E) (p : D × En) : Out (D × En) := (boolD p.1).bind (ko1 b p.2)
def kO (b : E) (p : Bool × En) : Out (Bool × En) := if p.1 = true then .ok (true, p.2) else (ev b).t p.2
def ki (a b : E) (p : Bool × En) : Out (D × En) := if p.1 = true then (ev a).v p.2 else (ev b).v p.2
def kit (a b : E) (p : Bool × En) : Out (Bool × En) := if p.1 = true then (ev a).t p.2 else (ev b).t p.2
def kt (p : List D × En) : Out (D × En) := if p.1.length ≤ 16777216 then .ok (.tuple p.1, p.2) else .bad
def kls (p : List D × En) : Out (D × En) := if p.1.length ≤ 16777216 then .ok (.list p.1, p.2) else .bad
def kB3 (e : En) (j : Nat) (r : D × List D) : Out (D × En) := .ok (r.1, e.putAny j r.2)
def kB2 (f : List D → List D → Out (D × List D)) (j : Nat) (xs : List D) (e : En) (bg : List D) : Out (D × En) := (f bg xs).noErr.bind (kB3 e j)
def kB1 (f : List D → List D → Out (D × List D)) (j : Nat) (p : List D × En) : Out (D × En) := (p.2.getAny j).bind (kB2 f j p.1 p.2)
def kB (f : List D → List D → Out (D × List D)) (j : Nat) (es : E) (e : En) (_ : List D) : Out (D × En) := ((ev es).as e).bind (kB1 f j)
def isi1 (T : String) (x : D) : Out D := isiD T [x]
def ks2 (x : D) (l : Option Int) (u : Option Int × En) : Out (D × En) := (sliceD x l u.1).at u.2
def ks1 (x : D) (c : E) (l : Option Int × En) : Out (D × En) := ((ev c).p l.2).bind (ks2 x l.1)
def ks (b c : E) (p : D × En) : Out (D × En) := ((ev b).p p.2).bind (ks1 p.1 c)
def kC1 (e : En) (vs : List Nat) (q : List D × En) : Out (D × En) := .ok (.list q.1, q.2.back e vs)
def kC (a : E) (t : Tg) (c : E) (vs : List Nat) (p : List D × En) : Out (D × En) := if ownFree p.2.sl vs = true then (compL (asg t) (ev c).c (ev a).v vs p.1 (p.2.wipe vs) []).noErr.bind (kC1 p.2 vs) else .bad
def kon (neg : Bool) (e : En) (ds : List D) : Out (D × En) := if SeqAt.shaped (.list ds) = true then .ok (.bool (neg != ds.isEmpty), e) else .bad
def kot (neg : Bool) (e : En) (ds : List D) : Out (Bool × En) := if SeqAt.shaped (.list ds) = true then .ok (neg != ds.isEmpty, e) else .bad
def kx2 (y : D) (e : En) (ds : List D) : Out (D × En) := (ixD (.list ds) y).at e
def kx1 (i : Nat) (p : D × En) : Out (D × En) := (p.2.getAny i).bind (kx2 p.1 p.2)
def kx (i : Nat) (a : E) (e : En) (_ : List D) : Out (D × En) := ((ev a).v e).bind (kx1 i)
def kp (i : Nat) (e : En) (ds : List D) : Out (D × En) := match ds with
    | [] => .bad
    | d :: r => .ok (d, e.put i (.bag r))
def kq1 (x : D) (q : List D × En) : Out (List D × En) := .ok (x :: q.1, q.2)
def kq (b : E) (p : D × En) : Out (List D × En) := ((ev b).as p.2).bind (kq1 p.1)
def kr1 (g : D → Out (List D)) (p : D × En) : Out (List D × En) := (g p.1).at p.2
def kr2 (g : D → D → Out (List D)) (b : E) (p : D × En) : Out (List D × En) := ((ev b).v p.2).bind (kr1 (g p.1))
def cset (t : Tg) (p : D × En) : SO := (asg t p.1 p.2).so .next
def cset1 (e : En) (i : Nat) (s : Slot) : SO := e.set1 i s
def cown (kd : Kd) (i : Nat) (p : D × En) : SO := (kd.slot p.1).so (cset1 p.2 i)
def cpar2d (i j : Nat) (e : En) (s t : Slot) : SO := if e.free i = true ∧ e.free j = true then .next ((e.put i s).put j t) else .bad
def cpar2c (l : Kd) (i j : Nat) (y : D) (e : En) (s : Slot) : SO := (l.slot y).so (cpar2d i j e s)
def cpar2b (k l : Kd) (i j : Nat) (x : D) (q : D × En) : SO := (k.slot x).so (cpar2c l i j q.1 q.2)
def cpar2 (k l : Kd) (i j : Nat) (n : E) (p : D × En) : SO := ((ev n).v p.2).so (cpar2b k l i j p.1)
def cpar3f (i j h : Nat) (e : En) (s t u : Slot) : SO := if e.free i = true ∧ e.free j = true ∧ e.free h = true then .next (((e.put i s).put j t).put h u) else .bad
def cpar3e (w : Kd) (i j h : Nat) (z : D) (e : En) (s t : Slot) : SO := (w.slot z).so (cpar3f i j h e s t)
def cpar3d (l w : Kd) (i j h : Nat) (y z : D) (e : En) (s : Slot) : SO := (l.slot y).so (cpar3e w i j h z e s)
def cpar3c (k l w : Kd) (i j h : Nat) (x y : D) (r : D × En) : SO := (k.slot x).so (cpar3d l w i j h y r.1 r.2)
def cpar3b (k l w : Kd) (i j h : Nat) (c : E) (x : D) (q : D × En) : SO := ((ev c).v q.2).so (cpar3c k l w i j h x q.1)
def cpar3 (k l w : Kd) (i j h : Nat) (n c : E) (p : D × En) : SO := ((ev n).v p.2).so (cpar3b k l w i j h c p.1)
def capp2 (i : Nat) (x : D) (e : En) (ds : List D) : SO := if ds.length < 16777216 then .next (e.putAny i (ds ++ [x])) else .bad
def capp1 (i : Nat) (p : D × En) : SO := (p.2.getAny i).so (capp2 i p.1 p.2)
def capp (i : Nat) (m : E) (e : En) (_ : List D) : SO := ((ev m).v e).so (capp1 i)
def csx3 (i : Nat) (e : En) (ds : List D) : SO := .next (e.put i (.own ds))
def csx2 (i : Nat) (x y : D) (e : En) (ds : List D) : SO := (setL ds y x).so (csx3 i e)
def csx1 (i : Nat) (x : D) (q : D × En) : SO := (q.2.getOwn i).so (csx2 i x q.1 q.2)
def csx0 (i : Nat) (k : E) (x : D) (e : En) (_ : List D) : SO := ((ev k).v e).so (csx1 i x)
def csx (i : Nat) (k : E) (p : D × En) : SO := (p.2.getOwn i).so (csx0 i k p.1 p.2)
def cfrz (i : Nat) (e : En) (ds : List D) : SO := .next (e.put i (.val (.list ds)))
def cex (p : D × En) : SO := .next p.2
def cret (p : D × En) : SO := .ret p.1 p.2
def cretF (p : D × En) : SO := match p.1 with
    | .list ds => .retf ds p.2
    | _ => .bad
def creto (i : Nat) (e : En) (_ : List D) : SO := .reto i e
def cite (a b : S) (p : Bool × En) : SO := if p.1 = true then evS a p.2 else evS b p.2
@[simp] theorem r_k1 (g : D → Out D) (p0 : D) (p1 : En) : k1 g (p0, p1) = (g p0).at p1 := (rfl)
@[simp] theorem r_k2 (g : D → D → Out D) (b : E) (p0 : D) (p1 : En) : k2 g b (p0, p1) = ((ev b).v p1).bind (k1 (g p0)) := (rfl)
@[simp] theorem r_kf (f : List D → Out D) (p0 : List D) (p1 : En) : kf f (p0, p1) = (f p0).at p1 := (rfl)
@[simp] theorem r_kl (f : List D → Out (List D)) (p0 : List D) (p1 : En) : kl f (p0, p1) = ((f p0).map PyData.list).at p1 := (rfl)
@[simp] theorem r_kb (e : En) (x : D) : kb e x = (boolD x).at e := (rfl)
@[simp] theorem r_kt1 (g : D → Out D) (p0 : D) (p1 : En) : kt1 g (p0, p1) = (g p0).bind (kb p1) := (rfl)
@[simp] theorem r_kt2 (g : D → D → Out D) (b : E) (p0 : D) (p1 : En) : kt2 g b (p0, p1) = ((ev b).v p1).bind (kt1 (g p0)) := (rfl)
@[simp] theorem r_kT (p0 : D) (p1 : En) : kT (p0, p1) = (truthD p0).at p1 := (rfl)
@[simp] theorem r_kP (p0 : D) (p1 : En) : kP (p0, p1) = (partD p0).at p1 := (rfl)
@[simp] theorem r_kI (p0 : D) (p1 : En) : kI (p0, p1) = (itemsD p0).at p1 := (rfl)
@[simp] theorem r_kc3 (g : D → D → Out D) (c : E) (y : D) (e : En) (t : Bool) : kc3 g c y e t = if t = true then ((ev c).v e).bind (k1 (g y)) else .ok (.bool false, e) := (rfl)
@[simp] theorem r_kc2 (g : D → D → Out D) (c : E) (y : D) (e : En) (k : D) : kc2 g c y e k = (boolD k).bind (kc3 g c y e) := (rfl)
@[simp] theorem r_kc1 (o : D → D → Out D) (g : D → D → Out D) (c : E) (x : D) (p0 : D) (p1 : En) : kc1 o g c x (p0, p1) = (o x p0).bind (kc2 g c p0 p1) := (rfl)
@[simp] theorem r_kc0 (o : D → D → Out D) (g : D → D → Out D) (b : E) (c : E) (p0 : D) (p1 : En) : kc0 o g b c (p0, p1) = ((ev b).v p1).bind (kc1 o g c p0) := (rfl)
@[simp] theorem r_kd3 (g : D → D → Out D) (c : E) (y : D) (e : En) (t : Bool) : kd3 g c y e t = if t = true then ((ev c).v e).bind (kt1 (g y)) else .ok (false, e) := (rfl)
@[simp] theorem r_kd2 (g : D → D → Out D) (c : E) (y : D) (e : En) (k : D) : kd2 g c y e k = (boolD k).bind (kd3 g c y e) := (rfl)
@[simp] theorem r_kd1 (o : D → D → Out D) (g : D → D → Out D) (c : E) (x : D) (p0 : D) (p1 : En) : kd1 o g c x (p0, p1) = (o x p0).bind (kd2 g c p0 p1) := (rfl)
@[simp] theorem r_kd0 (o : D → D → Out D) (g : D → D → Out D) (b : E) (c : E) (p0 : D) (p1 : En) : kd0 o g b c (p0, p1) = ((ev b).v p1).bind (kd1 o g c p0) := (rfl)
@[simp] theorem r_kn1 (e : En) (c : Bool) : kn1 e c = .ok (.bool (!c), e) := (rfl)
@[simp] theorem r_kn (p0 : D) (p1 : En) : kn (p0, p1) = (truthD p0).bind (kn1 p1) := (rfl)
@[simp] theorem r_kN (p0 : Bool) (p1 : En) : kN (p0, p1) = .ok (!p0, p1) := (rfl)
@[simp] theorem r_ka1 (b : E) (e : En) (c : Bool) : ka1 b e c = if c = true then (ev b).v e else .ok (.bool false, e) := (rfl)
@[simp] theorem r_ka (b : E) (p0 : D) (p1 : En) : ka b (p0, p1) = (boolD p0).bind (ka1 b p1) := (rfl)
@[simp] theorem r_kA (b : E) (p0 : Bool) (p1 : En) : kA b (p0, p1) = if p0 = true then (ev b).t p1 else .ok (false, p1) := (rfl)
@[simp] theorem r_ko1 (b : E) (e : En) (c : Bool) : ko1 b e c = if c = true then .ok (.bool true, e) else (ev b).v e := (rfl)
@[simp] theorem r_ko (b : E) (p0 : D) (p1 : En) : ko b (p0, p1) = (boolD p0).bind (ko1 b p1) := (rfl)
@[simp] theorem r_kO (b : E) (p0 : Bool) (p1 : En) : kO b (p0, p1) = if p0 = true then .ok (true, p1) else (ev b).t p1 := (rfl)
@[simp] theorem r_ki (a : E) (b : E) (p0 : Bool) (p1 : En) : ki a b (p0, p1) = if p0 = true then (ev a).v p1 else (ev b).v p1 := (rfl)
@[simp] theorem r_kit (a : E) (b : E) (p0 : Bool) (p1 : En) : kit a b (p0, p1) = if p0 = true then (ev a).t p1 else (ev b).t p1 := (rfl)
@[simp] theorem r_kt (p0 : List D) (p1 : En) : kt (p0, p1) = if p0.length ≤ 16777216 then .ok (.tuple p0, p1) else .bad := (rfl)
@[simp] theorem r_kls (p0 : List D) (p1 : En) : kls (p0, p1) = if p0.length ≤ 16777216 then .ok (.list p0, p1) else .bad := (rfl)
@[simp] theorem r_kB3 (e : En) (j : Nat) (r0 : D) (r1 : List D) : kB3 e j (r0, r1) = .ok (r0, e.putAny j r1) := (rfl)
@[simp] theorem r_kB2 (f : List D → List D → Out (D × List D)) (j : Nat) (xs : List D) (e : En) (bg : List D) : kB2 f j xs e bg = (f bg xs).noErr.bind (kB3 e j) := (rfl)
@[simp] theorem r_kB1 (f : List D → List D → Out (D × List D)) (j : Nat) (p0 : List D) (p1 : En) : kB1 f j (p0, p1) = (p1.getAny j).bind (kB2 f j p0 p1) := (rfl)
@[simp] theorem r_kB (f : List D → List D → Out (D × List D)) (j : Nat) (es : E) (e : En) (w_ : List D) : kB f j es e w_ = ((ev es).as e).bind (kB1 f j) := (rfl)
@[simp] theorem r_ks2 (x : D) (l : Option Int) (u0 : Option Int) (u1 : En) : ks2 x l (u0, u1) = (sliceD x l u0).at u1 := (rfl)
@[simp] theorem r_ks1 (x : D) (c : E) (l0 : Option Int) (l1 : En) : ks1 x c (l0, l1) = ((ev c).p l1).bind (ks2 x l0) := (rfl)
@[simp] theorem r_ks (b : E) (c : E) (p0 : D) (p1 : En) : ks b c (p0, p1) = ((ev b).p p1).bind (ks1 p0 c) := (rfl)
@[simp] theorem r_kC1 (e : En) (vs : List Nat) (q0 : List D) (q1 : En) : kC1 e vs (q0, q1) = .ok (.list q0, q1.back e vs) := (rfl)
@[simp] theorem r_kC (a : E) (t : Tg) (c : E) (vs : List Nat) (p0 : List D) (p1 : En) : kC a t c vs (p0, p1) = if ownFree p1.sl vs = true then (compL (asg t) (ev c).c (ev a).v vs p0 (p1.wipe vs) []).noErr.bind (kC1 p1 vs) else .bad := (rfl)
@[simp] theorem r_kon (neg : Bool) (e : En) (ds : List D) : kon neg e ds = if SeqAt.shaped (.list ds) = true then .ok (.bool (neg != ds.isEmpty), e) else .bad := (rfl)
@[simp] theorem r_kot (neg : Bool) (e : En) (ds : List D) : kot neg e ds = if SeqAt.shaped (.list ds) = true then .ok (neg != ds.isEmpty, e) else .bad := (rfl)
@[simp] theorem r_kx2 (y : D) (e : En) (ds : List D) : kx2 y e ds = (ixD (.list ds) y).at e := (rfl)
@[simp] theorem r_kx1 (i : Nat) (p0 : D) (p1 : En) : kx1 i (p0, p1) = (p1.getAny i).bind (kx2 p0 p1) := (rfl)
@[simp] theorem r_kx (i : Nat) (a : E) (e : En) (w_ : List D) : kx i a e w_ = ((ev a).v e).bind (kx1 i) := (rfl)
@[simp] theorem r_kq1 (x : D) (q0 : List D) (q1 : En) : kq1 x (q0, q1) = .ok (x :: q0, q1) := (rfl)
@[simp] theorem r_kq (b : E) (p0 : D) (p1 : En) : kq b (p0, p1) = ((ev b).as p1).bind (kq1 p0) := (rfl)
@[simp] theorem r_kr1 (g : D → Out (List D)) (p0 : D) (p1 : En) : kr1 g (p0, p1) = (g p0).at p1 := (rfl)
@[simp] theorem r_kr2 (g : D → D → Out (List D)) (b : E) (p0 : D) (p1 : En) : kr2 g b (p0, p1) = ((ev b).v p1).bind (kr1 (g p0)) := (rfl)
@[simp] theorem r_cset (t : Tg) (p0 : D) (p1 : En) : cset t (p0, p1) = (asg t p0 p1).so .next := (rfl)
@[simp] theorem r_cset1 (e : En) (i : Nat) (s : Slot) : cset1 e i s = e.set1 i s := (rfl)
@[simp] theorem r_cown (kd : Kd) (i : Nat) (p0 : D) (p1 : En) : cown kd i (p0, p1) = (kd.slot p0).so (cset1 p1 i) := (rfl)
@[simp] theorem r_cpar2d (i : Nat) (j : Nat) (e : En) (s : Slot) (t : Slot) : cpar2d i j e s t = if e.free i = true ∧ e.free j = true then .next ((e.put i s).put j t) else .bad := (rfl)
@[simp] theorem r_cpar2c (l : Kd) (i : Nat) (j : Nat) (y : D) (e : En) (s : Slot) : cpar2c l i j y e s = (l.slot y).so (cpar2d i j e s) := (rfl)
@[simp] theorem r_cpar2b (k : Kd) (l : Kd) (i : Nat) (j : Nat) (x : D) (q0 : D) (q1 : En) : cpar2b k l i j x (q0, q1) = (k.slot x).so (cpar2c l i j q0 q1) := (rfl)
@[simp] theorem r_cpar2 (k : Kd) (l : Kd) (i : Nat) (j : Nat) (n : E) (p0 : D) (p1 : En) : cpar2 k l i j n (p0, p1) = ((ev n).v p1).so (cpar2b k l i j p0) := (rfl)
@[simp] theorem r_cpar3f (i : Nat) (j : Nat) (h : Nat) (e : En) (s : Slot) (t : Slot) (u : Slot) : cpar3f i j h e s t u = if e.free i = true ∧ e.free j = true ∧ e.free h = true then .next (((e.put i s).put j t).put h u) else .bad := (rfl)
@[simp] theorem r_cpar3e (w : Kd) (i : Nat) (j : Nat) (h : Nat) (z : D) (e : En) (s : Slot) (t : Slot) : cpar3e w i j h z e s t = (w.slot z).so (cpar3f i j h e s t) := (rfl)
@[simp] theorem r_cpar3d (l : Kd) (w : Kd) (i : Nat) (j : Nat) (h : Nat) (y : D) (z : D) (e : En) (s : Slot) : cpar3d l w i j h y z e s = (l.slot y).so (cpar3e w i j h z e s) := (rfl)
@[simp] theorem r_cpar3c (k : Kd) (l : Kd) (w : Kd) (i : Nat) (j : Nat) (h : Nat) (x : D) (y : D) (r0 : D) (r1 : En) : cpar3c k l w i j h x y (r0, r1) = (k.slot x).so (cpar3d l w i j h y r0 r1) := (rfl)
@[simp] theorem r_cpar3b (k : Kd) (l : Kd) (w : Kd) (i : Nat) (j : Nat) (h : Nat) (c : E) (x : D) (q0 : D) (q1 : En) : cpar3b k l w i j h c x (q0, q1) = ((ev c).v q1).so (cpar3c k l w i j h x q0) := (rfl)
@[simp] theorem r_cpar3 (k : Kd) (l : Kd) (w : Kd) (i : Nat) (j : Nat) (h : Nat) (n : E) (c : E) (p0 : D) (p1 : En) : cpar3 k l w i j h n c (p0, p1) = ((ev n).v p1).so (cpar3b k l w i j h c p0) := (rfl)
@[simp] theorem r_capp2 (i : Nat) (x : D) (e : En) (ds : List D) : capp2 i x e ds = if ds.length < 16777216 then .next (e.putAny i (ds ++ [x])) else .bad := (rfl)
@[simp] theorem r_capp1 (i : Nat) (p0 : D) (p1 : En) : capp1 i (p0, p1) = (p1.getAny i).so (capp2 i p0 p1) := (rfl)
@[simp] theorem r_capp (i : Nat) (m : E) (e : En) (w_ : List D) : capp i m e w_ = ((ev m).v e).so (capp1 i) := (rfl)
@[simp] theorem r_csx3 (i : Nat) (e : En) (ds : List D) : csx3 i e ds = .next (e.put i (.own ds)) := (rfl)
@[simp] theorem r_csx2 (i : Nat) (x : D) (y : D) (e : En) (ds : List D) : csx2 i x y e ds = (setL ds y x).so (csx3 i e) := (rfl)
@[simp] theorem r_csx1 (i : Nat) (x : D) (q0 : D) (q1 : En) : csx1 i x (q0, q1) = (q1.getOwn i).so (csx2 i x q0 q1) := (rfl)
@[simp] theorem r_csx0 (i : Nat) (k : E) (x : D) (e : En) (w_ : List D) : csx0 i k x e w_ = ((ev k).v e).so (csx1 i x) := (rfl)
@[simp] theorem r_csx (i : Nat) (k : E) (p0 : D) (p1 : En) : csx i k (p0, p1) = (p1.getOwn i).so (csx0 i k p0 p1) := (rfl)
@[simp] theorem r_cfrz (i : Nat) (e : En) (ds : List D) : cfrz i e ds = .next (e.put i (.val (.list ds))) := (rfl)
@[simp] theorem r_cex (p0 : D) (p1 : En) : cex (p0, p1) = .next p1 := (rfl)
@[simp] theorem r_cret (p0 : D) (p1 : En) : cret (p0, p1) = .ret p0 p1 := (rfl)
@[simp] theorem r_creto (i : Nat) (e : En) (w_ : List D) : creto i e w_ = .reto i e := (rfl)
@[simp] theorem r_cite (a : S) (b : S) (p0 : Bool) (p1 : En) : cite a b (p0, p1) = if p0 = true then evS a p1 else evS b p1 := (rfl)
@[simp] theorem r_kp (i : Nat) (e : En) (d : D) (r : List D) : kp i e (d :: r) = .ok (d, e.put i (.bag r)) := (rfl)
@[simp] theorem r_cretF (ds : List D) (e : En) : cretF (.list ds, e) = .retf ds e := (rfl)
/-- slots -/
@[simp] theorem getS_0 (d : D) (r : List Slot) (st) : En.get ⟨.val d :: r, st⟩ 0 = .ok d := (rfl)
@[simp] theorem getS_s (s : Slot) (r : List Slot) (st) (i : Nat) : En.get ⟨s :: r, st⟩ (i + 1) = En.get ⟨r, st⟩ i := (rfl)
@[simp] theorem getO_0 (d : List D) (r : List Slot) (st) : En.getOwn ⟨.own d :: r, st⟩ 0 = .ok d := (rfl)
@[simp] theorem getO_s (s : Slot) (r : List Slot) (st) (i : Nat) : En.getOwn ⟨s :: r, st⟩ (i + 1) = En.getOwn ⟨r, st⟩ i := (rfl)
@[simp] theorem getA_0 (d : List D) (r : List Slot) (st) : En.getAny ⟨.own d :: r, st⟩ 0 = .ok d := (rfl)
@[simp] theorem getA_b (d : List D) (r : List Slot) (st) : En.getAny ⟨.bag d :: r, st⟩ 0 = .ok d := (rfl)
@[simp] theorem getA_s (s : Slot) (r : List Slot) (st) (i : Nat) : En.getAny ⟨s :: r, st⟩ (i + 1) = En.getAny ⟨r, st⟩ i := (rfl)
@[simp] theorem getB_b (d : List D) (r : List Slot) (st) : En.getBag ⟨.bag d :: r, st⟩ 0 = .ok d := (rfl)
theorem free_def (e : En) (i : Nat) : e.free i = match e.sl[i]? with | some (.bag _) => false | some _ => true | none => false := rfl
@[simp] theorem free_v (d : D) (r : List Slot) (st) : En.free ⟨.val d :: r, st⟩ 0 = true := (rfl)
@[simp] theorem free_o (d : List D) (r : List Slot) (st) : En.free ⟨.own d :: r, st⟩ 0 = true := (rfl)
@[simp] theorem free_n (r : List Slot) (st) : En.free ⟨.no :: r, st⟩ 0 = true := (rfl)
@[simp] theorem free_s (s : Slot) (r : List Slot) (st) (i : Nat) : En.free ⟨s :: r, st⟩ (i + 1) = En.free ⟨r, st⟩ i := (rfl)
@[simp] theorem put_def (l : List Slot) (st) (i : Nat) (x : Slot) : En.put ⟨l, st⟩ i x = ⟨l.set i x, st⟩ := (rfl)
def putL : List Slot → Nat → List D → List Slot
  | [], _, _ => []
  | s :: r, 0, x => (match s with
    | .bag _ => .bag x
    | _ => .own x) :: r
  | s :: r, i + 1, x => s :: putL r i x
theorem putL_eq (st) (x : List D) : ∀ (l : List Slot) (i : Nat), En.putAny ⟨l, st⟩ i x = ⟨putL l i x, st⟩
  | [], i => by simp [En.putAny, putL]
  | s :: r, 0 => by cases s <;> rfl
  | s :: r, i + 1 => by
    have h := putL_eq st x r i
    unfold En.putAny at h ⊢
    simp only [List.getElem?_cons_succ, putL]
    split <;> rename_i q <;> simp only [q] at h <;> simp_all [En.put]
@[simp] theorem putAny_def (l : List Slot) (st) (i : Nat) (x : List D) : En.putAny ⟨l, st⟩ i x = ⟨putL l i x, st⟩ := putL_eq st x l i
@[simp] theorem putL_o (d x : List D) (r : List Slot) : putL (.own d :: r) 0 x = .own x :: r := (rfl)
@[simp] theorem putL_b (d x : List D) (r : List Slot) : putL (.bag d :: r) 0 x = .bag x :: r := (rfl)
@[simp] theorem putL_s (s : Slot) (r : List Slot) (i : Nat) (x : List D) : putL (s :: r) (i + 1) x = s :: putL r i x := (rfl)
theorem putAny_s (s : Slot) (r : List Slot) (st) (i : Nat) (x : List D) : En.putAny ⟨s :: r, st⟩ (i + 1) x = ⟨s :: (En.putAny ⟨r, st⟩ i x).sl, st⟩ := by
  unfold En.putAny
  simp only [List.getElem?_cons_succ]
  split <;> rfl
@[simp] theorem set1_def (e : En) (i : Nat) (x : Slot) : e.set1 i x = if e.free i = true then .next (e.put i x) else .bad := (rfl)
@[simp] theorem shut_def (sl : List Slot) (st) : En.shut ⟨sl, st⟩ = ⟨sl.map fun s => match s with | .val d => .val d | _ => .no, []⟩ := (rfl)
section
variable (e : En) (a b c d es : E)
@[simp] theorem v_var (i : Nat) : (ev (.var i)).v e = (e.get i).at e := (rfl)
@[simp] theorem v_cst (x : D) : (ev (.cst x)).v e = .ok (x, e) := (rfl)
@[simp] theorem v_glob (n : Str) (x : D) : (ev (.glob n x)).v e = .ok (x, e) := (rfl)
@[simp] theorem v_neg : (ev (.neg a)).v e = ((ev a).v e).bind (k1 negD) := (rfl)
@[simp] theorem v_bin (o : Bo) : (ev (.bin o a b)).v e = ((ev a).v e).bind (k2 o.f b) := (rfl)
@[simp] theorem v_cmp (o : Cm) : (ev (.cmp o a b)).v e = ((ev a).v e).bind (k2 o.f b) := (rfl)
@[simp] theorem t_cmp (o : Cm) : (ev (.cmp o a b)).t e = ((ev a).v e).bind (kt2 o.f b) := (rfl)
@[simp] theorem v_chain (o p : Cm) : (ev (.chain o p a b c)).v e = ((ev a).v e).bind (kc0 o.f p.f b c) := (rfl)
@[simp] theorem t_chain (o p : Cm) : (ev (.chain o p a b c)).t e = ((ev a).v e).bind (kd0 o.f p.f b c) := (rfl)
@[simp] theorem v_not : (ev (.not a)).v e = ((ev a).v e).bind (kn) := (rfl)
@[simp] theorem t_not : (ev (.not a)).t e = ((ev a).t e).bind kN := (rfl)
@[simp] theorem v_and : (ev (.and a b)).v e = ((ev a).v e).bind (ka b) := (rfl)
@[simp] theorem t_and : (ev (.and a b)).t e = ((ev a).t e).bind (kA b) := (rfl)
@[simp] theorem v_or : (ev (.or a b)).v e = ((ev a).v e).bind (ko b) := (rfl)
@[simp] theorem t_or : (ev (.or a b)).t e = ((ev a).t e).bind (kO b) := (rfl)
@[simp] theorem v_ite : (ev (.ite c a b)).v e = ((ev c).t e).bind (ki a b) := (rfl)
@[simp] theorem t_ite : (ev (.ite c a b)).t e = ((ev c).t e).bind (kit a b) := (rfl)
@[simp] theorem v_tup : (ev (.tup es)).v e = ((ev es).as e).bind kt := (rfl)
@[simp] theorem v_lst : (ev (.lst es)).v e = ((ev es).as e).bind kls := (rfl)
@[simp] theorem v_cat : (ev (.cat a b)).v e = ((ev a).v e).bind (k2 catD b) := (rfl)
@[simp] theorem v_call (x : Str) (f) : (ev (.call x f es)).v e = ((ev es).as e).bind (kf f) := (rfl)
@[simp] theorem v_callF (x : Str) (f) : (ev (.callF x f es)).v e = ((ev es).as e).bind (kl f) := (rfl)
@[simp] theorem v_callB (x : Str) (f) (j : Nat) : (ev (.callB x f j es)).v e = (e.getAny j).bind (kB f j es e) := (rfl)
@[simp] theorem v_bi (o : Bi) : (ev (.bi o es)).v e = ((ev es).as e).bind (kf o.f) := (rfl)
@[simp] theorem v_isi (T : String) : (ev (.isi a T)).v e = ((ev a).v e).bind (k1 (isi1 T)) := (rfl)
@[simp] theorem v_ix : (ev (.ix a b)).v e = ((ev a).v e).bind (k2 ixD b) := (rfl)
@[simp] theorem v_sl : (ev (.sl a b c)).v e = ((ev a).v e).bind (ks b c) := (rfl)
@[simp] theorem v_rev : (ev (.rev a)).v e = ((ev a).v e).bind (k1 revD) := (rfl)
@[simp] theorem v_comp (t : Tg) (vs : List Nat) : (ev (.comp a t b c vs)).v e = ((ev b).i e).bind (kC a t c vs) := (rfl)
@[simp] theorem v_ownNil (i : Nat) (neg : Bool) : (ev (.ownNil i neg)).v e = (e.getAny i).bind (kon neg e) := (rfl)
@[simp] theorem t_ownNil (i : Nat) (neg : Bool) : (ev (.ownNil i neg)).t e = (e.getAny i).bind (kot neg e) := (rfl)
@[simp] theorem v_ownIx (i : Nat) : (ev (.ownIx i a)).v e = (e.getAny i).bind (kx i a e) := (rfl)
def kL (e : En) (ds : List D) : Out (D × En) := .ok (.int ds.length, e)
@[simp] theorem r_kL (e : En) (ds : List D) : kL e ds = .ok (.int ds.length, e) := (rfl)
@[simp] theorem v_ownLen (i : Nat) : (ev (.ownLen i)).v e = (e.getAny i).bind (kL e) := (rfl)
@[simp] theorem v_lam (x : Str) (g) : (ev (.lam x g a)).v e = (g (((ev a).v e.shut).map (·.1))).at e := (rfl)
@[simp] theorem v_pop0 (i : Nat) : (ev (.pop0 i)).v e = (e.getBag i).bind (kp i e) := (rfl)
@[simp] theorem v_ext (x : Fm) : (ev (.ext x es)).v e = ((ev es).as e).bind (kf x.f) := (rfl)
@[simp] theorem as_nil : (ev .nil).as e = .ok ([], e) := (rfl)
@[simp] theorem as_cons : (ev (.cons a b)).as e = ((ev a).v e).bind (kq b) := (rfl)
@[simp] theorem p_no : (ev .no).p e = .ok (none, e) := (rfl)
@[simp] theorem c_no : (ev .no).c e = .ok (true, e) := (rfl)
@[simp] theorem i_rng1 : (ev (.rng1 a)).i e = ((ev a).v e).bind (kr1 (rngD (.int 0))) := (rfl)
@[simp] theorem i_rng2 : (ev (.rng2 a b)).i e = ((ev a).v e).bind (kr2 rngD b) := (rfl)
@[simp] theorem i_enum : (ev (.enum a)).i e = ((ev a).v e).bind (kr1 enumD) := (rfl)
@[simp] theorem i_zip : (ev (.zip a b)).i e = ((ev a).v e).bind (kr2 zipD b) := (rfl)
/-! forms whose test is that of their value -/
@[simp] theorem t_var (i : Nat) : (ev (.var i)).t e = ((e.get i).at e).bind kT := (rfl)
@[simp] theorem t_cst (x : D) : (ev (.cst x)).t e = (truthD x).at e := (rfl)
@[simp] theorem t_call (x : Str) (f) : (ev (.call x f es)).t e = ((ev (.call x f es)).v e).bind kT := (rfl)
@[simp] theorem t_bi (o : Bi) : (ev (.bi o es)).t e = ((ev (.bi o es)).v e).bind kT := (rfl)
@[simp] theorem t_isi (T : String) : (ev (.isi a T)).t e = ((ev (.isi a T)).v e).bind kT := (rfl)
@[simp] theorem t_ix : (ev (.ix a b)).t e = ((ev (.ix a b)).v e).bind kT := (rfl)
@[simp] theorem t_ext (x : Fm) : (ev (.ext x es)).t e = ((ev (.ext x es)).v e).bind kT := (rfl)
/-! .. whose part of a slice, whose items -/
@[simp] theorem p_var (i : Nat) : (ev (.var i)).p e = ((e.get i).at e).bind kP := (rfl)
@[simp] theorem p_cst (x : D) : (ev (.cst x)).p e = (partD x).at e := (rfl)
@[simp] theorem p_bin (o : Bo) : (ev (.bin o a b)).p e = ((ev (.bin o a b)).v e).bind kP := (rfl)
@[simp] theorem p_neg : (ev (.neg a)).p e = ((ev (.neg a)).v e).bind kP := (rfl)
@[simp] theorem i_var (i : Nat) : (ev (.var i)).i e = ((e.get i).at e).bind kI := (rfl)
@[simp] theorem i_cst (x : D) : (ev (.cst x)).i e = (itemsD x).at e := (rfl)
@[simp] theorem i_ix : (ev (.ix a b)).i e = ((ev (.ix a b)).v e).bind kI := (rfl)
@[simp] theorem i_tup : (ev (.tup es)).i e = ((ev (.tup es)).v e).bind kI := (rfl)
@[simp] theorem i_lst : (ev (.lst es)).i e = ((ev (.lst es)).v e).bind kI := (rfl)
@[simp] theorem i_sl : (ev (.sl a b c)).i e = ((ev (.sl a b c)).v e).bind kI := (rfl)
@[simp] theorem i_call (x : Str) (f) : (ev (.call x f es)).i e = ((ev (.call x f es)).v e).bind kI := (rfl)
@[simp] theorem i_bin (o : Bo) : (ev (.bin o a b)).i e = ((ev (.bin o a b)).v e).bind kI := (rfl)
@[simp] theorem i_rev : (ev (.rev a)).i e = ((ev (.rev a)).v e).bind kI := (rfl)
@[simp] theorem i_comp (t : Tg) (vs : List Nat) : (ev (.comp a t b c vs)).i e = ((ev (.comp a t b c vs)).v e).bind kI := (rfl)
@[simp] theorem c_cmp (o : Cm) : (ev (.cmp o a b)).c e = (ev (.cmp o a b)).t e := (rfl)
@[simp] theorem c_and : (ev (.and a b)).c e = (ev (.and a b)).t e := (rfl)
@[simp] theorem c_or : (ev (.or a b)).c e = (ev (.or a b)).t e := (rfl)
@[simp] theorem c_not : (ev (.not a)).c e = (ev (.not a)).t e := (rfl)
@[simp] theorem c_var (i : Nat) : (ev (.var i)).c e = (ev (.var i)).t e := (rfl)
@[simp] theorem c_call (x : Str) (f) : (ev (.call x f es)).c e = (ev (.call x f es)).t e := (rfl)
@[simp] theorem c_ix : (ev (.ix a b)).c e = (ev (.ix a b)).t e := (rfl)
@[simp] theorem c_chain (o p : Cm) : (ev (.chain o p a b c)).c e = (ev (.chain o p a b c)).t e := (rfl)
@[simp] theorem c_isi (T : String) : (ev (.isi a T)).c e = (ev (.isi a T)).t e := (rfl)
end
section
variable (e : En) (m n k c : E) (a b : S)
@[simp] theorem s_skip : evS .skip e = .next e := (rfl)
@[simp] theorem s_seq : evS (.seq a b) e = bnd (evS a e) (evS b) := by
  show (match evS a e with | .next e1 => evS b e1 | r => r) = _
  cases evS a e <;> rfl
@[simp] theorem s_set (t : Tg) : evS (.set t m) e = ((ev m).v e).so (cset t) := (rfl)
@[simp] theorem s_setC (kd : Kd) (i : Nat) : evS (.setC kd i m) e = ((ev m).v e).so (cown kd i) := (rfl)
@[simp] theorem s_own (kd : Kd) (i : Nat) : evS (.own kd i m) e = ((ev m).v e).so (cown kd i) := (rfl)
@[simp] theorem s_par2 (k l : Kd) (i j : Nat) : evS (.par2 k l i j m n) e = ((ev m).v e).so (cpar2 k l i j n) := (rfl)
@[simp] theorem s_par3 (k' l w : Kd) (i j h : Nat) : evS (.par3 k' l w i j h m n c) e = ((ev m).v e).so (cpar3 k' l w i j h n c) := (rfl)
@[simp] theorem s_app (i : Nat) : evS (.app i m) e = (e.getAny i).so (capp i m e) := (rfl)
@[simp] theorem s_setIx (i : Nat) : evS (.setIx i k m) e = ((ev m).v e).so (csx i k) := (rfl)
@[simp] theorem s_frz (i : Nat) : evS (.frz i) e = (e.getOwn i).so (cfrz i e) := (rfl)
@[simp] theorem s_ex : evS (.ex m) e = ((ev m).v e).so cex := (rfl)
@[simp] theorem s_ret : evS (.ret m) e = ((ev m).v e).so cret := (rfl)
@[simp] theorem s_retF : evS (.retF m) e = ((ev m).v e).so cretF := (rfl)
@[simp] theorem s_retN : evS .retN e = .ret .none e := (rfl)
@[simp] theorem s_retOwn (i : Nat) : evS (.retOwn i) e = (e.getOwn i).so (creto i e) := (rfl)
@[simp] theorem s_ite : evS (.ite c a b) e = ((ev c).t e).so (cite a b) := (rfl)
@[simp] theorem s_loop (j : Nat) : evS (.loop j c b) e = (loopS (evT c) (evS b) j e).noErr := (rfl)
def ceach (t : Tg) (b : S) (p : List D × En) : SO := eachS (asg t) (evS b) p.1 p.2
@[simp] theorem r_ceach (t : Tg) (b : S) (l : List D) (e : En) : ceach t b (l, e) = eachS (asg t) (evS b) l e := (rfl)
@[simp] theorem s_each (t : Tg) : evS (.each t m b) e = (((ev m).i e).so (ceach t b)).noErr := (rfl)
@[simp] theorem s_blk (x : Bm) : evS (.blk x) e = x.f e := (rfl)
@[simp] theorem s_raise (x : Str) : evS (.raise x) e = .err x := (rfl)
@[simp] theorem s_brk : evS .brk e = .brk e := (rfl)
end
@[simp] theorem asg_name (i : Nat) (d : D) (e : En) : asg (.name i) d e = if e.free i = true then .ok (e.put i (.val d)) else .bad := (rfl)
@[simp] theorem asg_cons (a r : Tg) (x : D) (ds : List D) (e : En) : asg (.cons a r) (.tuple (x :: ds)) e = (asg a x e).bind ((tg r).2 ds) := (rfl)
@[simp] theorem tg2_cons (a r : Tg) (x : D) (ds : List D) (e : En) : (tg (.cons a r)).2 (x :: ds) e = (asg a x e).bind ((tg r).2 ds) := (rfl)
@[simp] theorem tg2_nil (e : En) : (tg .nil).2 [] e = .ok e := (rfl)
@[simp] theorem tg1_def (t : Tg) : (tg t).1 = asg t := (rfl)
@[simp] theorem bo_add : Bo.add.f = addD := (rfl)
@[simp] theorem bo_sub : Bo.sub.f = subD := (rfl)
@[simp] theorem bo_mul : Bo.mul.f = mulD := (rfl)
@[simp] theorem bo_div : Bo.div.f = divD := (rfl)
@[simp] theorem bo_mod : Bo.mod.f = modD := (rfl)
@[simp] theorem bo_pow : Bo.pow.f = powD := (rfl)
@[simp] theorem cm_eq : Cm.eq.f = eqD := (rfl)
@[simp] theorem cm_ne : Cm.ne.f = neD := (rfl)
@[simp] theorem cm_lt : Cm.lt.f = cmpI fun i j => decide (i < j) := (rfl)
@[simp] theorem cm_le : Cm.le.f = cmpI fun i j => decide (i ≤ j) := (rfl)
@[simp] theorem cm_gt : Cm.gt.f = cmpI fun i j => decide (j < i) := (rfl)
@[simp] theorem cm_ge : Cm.ge.f = cmpI fun i j => decide (j ≤ i) := (rfl)
@[simp] theorem cm_in : Cm.isin.f = isIn false := (rfl)
@[simp] theorem cm_notin : Cm.notin.f = isIn true := (rfl)
@[simp] theorem cm_is : Cm.is.f = isN false := (rfl)
@[simp] theorem cm_isnt : Cm.isnt.f = isN true := (rfl)
@[simp] theorem bi_len : Bi.len.f = lenD := (rfl)
@[simp] theorem bi_abs : Bi.abs.f = absD := (rfl)
@[simp] theorem bi_max : Bi.max.f = maxD := (rfl)
@[simp] theorem bi_min : Bi.min.f = minD := (rfl)
@[simp] theorem bi_int : Bi.int.f = intD := (rfl)
@[simp] theorem bi_str : Bi.str.f = strD := (rfl)
@[simp] theorem bi_tuple : Bi.tuple.f = tupleD := (rfl)
@[simp] theorem bi_list : Bi.list.f = listD := (rfl)
@[simp] theorem bi_all : Bi.all.f = allD := (rfl)
@[simp] theorem bi_any : Bi.any.f = anyD := (rfl)
@[simp] theorem kd_val (d : D) : Kd.val.slot d = .ok (.val d) := by cases d <;> rfl
@[simp] theorem kd_own (ds : List D) : Kd.own.slot (.list ds) = .ok (.own ds) := (rfl)
@[simp] theorem addD_int (i j : Int) : addD (.int i) (.int j) = .ok (.int (i + j)) := (rfl)
@[simp] theorem subD_int (i j : Int) : subD (.int i) (.int j) = .ok (.int (i - j)) := (rfl)
@[simp] theorem cmpI_int (p) (i j : Int) : cmpI p (.int i) (.int j) = .ok (.bool (p i j)) := (rfl)
@[simp] theorem boolD_bool (b : Bool) : boolD (.bool b) = .ok b := (rfl)
@[simp] theorem truthD_bool (b : Bool) : truthD (.bool b) = .ok b := (rfl)
@[simp] theorem negD_int (i : Int) : negD (.int i) = .ok (.int (-i)) := (rfl)
@[simp] theorem partD_int (i : Int) : partD (.int i) = .ok (some i) := (rfl)
@[simp] theorem itemsD_list (ds : List D) : itemsD (.list ds) = .ok ds := (rfl)
@[simp] theorem itemsD_tuple (ds : List D) : itemsD (.tuple ds) = .ok ds := (rfl)
@[simp] theorem lenD_list (ds : List D) : lenD [.list ds] = .ok (.int ds.length) := (rfl)
@[simp] theorem lenD_tuple (ds : List D) : lenD [.tuple ds] = .ok (.int ds.length) := (rfl)
@[simp] theorem lenD_scr (ds : List D) : lenD [scr ds] = .ok (.int ds.length) := (rfl)
@[simp] theorem minD_int (i j : Int) : minD [.int i, .int j] = .ok (.int (if j < i then j else i)) := (rfl)
@[simp] theorem maxD_int (i j : Int) : maxD [.int i, .int j] = .ok (.int (if j > i then j else i)) := (rfl)
@[simp] theorem absD_int (i : Int) : absD [.int i] = .ok (.int (if i < 0 then -i else i)) := (rfl)
@[simp] theorem intD_int (i : Int) : intD [.int i] = .ok (.int i) := (rfl)
/-! what a run comes to -/
def fin (r : SO) : Out D := match r with
  | .next _ => .ok .none
  | .ret d _ => .ok d
  | .retf ds _ => .ok (.list ds)
  | .reto i e => (e.getOwn i).map PyData.list
  | .err c => .err c
  | _ => .bad
def finF (r : SO) : Out (List D) := match r with
  | .retf ds _ => .ok ds
  | .reto i e => e.getOwn i
  | .err c => .err c
  | _ => .bad
def bagAt (d : D) (e : En) : Out (D × List D) := (e.getBag 0).map fun b => (d, b)
@[simp] theorem bagAt_def (d : D) (b : List D) (r : List Slot) (st) : bagAt d ⟨.bag b :: r, st⟩ = .ok (d, b) := (rfl)
def finB (r : SO) : Out (D × List D) := match r with
  | .next e => bagAt .none e
  | .ret d e => bagAt d e
  | .err c => .err c
  | _ => .bad
@[simp] theorem fin_next (e : En) : fin (.next e) = .ok .none := (rfl)
@[simp] theorem fin_ret (d : D) (e : En) : fin (.ret d e) = .ok d := (rfl)
@[simp] theorem fin_retf (ds : List D) (e : En) : fin (.retf ds e) = .ok (.list ds) := (rfl)
@[simp] theorem fin_reto (i : Nat) (e : En) : fin (.reto i e) = (e.getOwn i).map PyData.list := (rfl)
@[simp] theorem fin_err (c : Str) : fin (.err c) = .err c := (rfl)
@[simp] theorem finF_retf (ds : List D) (e : En) : finF (.retf ds e) = .ok ds := (rfl)
@[simp] theorem finF_reto (i : Nat) (e : En) : finF (.reto i e) = e.getOwn i := (rfl)
@[simp] theorem finF_err (c : Str) : finF (.err c) = .err c := (rfl)
@[simp] theorem finB_next (e : En) : finB (.next e) = bagAt .none e := (rfl)
@[simp] theorem finB_ret (d : D) (e : En) : finB (.ret d e) = bagAt d e := (rfl)
@[simp] theorem finB_err (c : Str) : finB (.err c) = .err c := (rfl)
theorem run_eq (ps : List Str) (n : Nat) (s : S) (ds : List D) (h : ds.length = ps.length) : Fn.run ⟨ps, n, s⟩ ds = fin (evS s ⟨ds.map Slot.val ++ List.replicate (n - ds.length) .no, []⟩) := by
  unfold Fn.run Fn.en; rw [if_pos h]; rfl
theorem runF_eq (ps : List Str) (n : Nat) (s : S) (ds : List D) (h : ds.length = ps.length) : Fn.runF ⟨ps, n, s⟩ ds = finF (evS s ⟨ds.map Slot.val ++ List.replicate (n - ds.length) .no, []⟩) := by
  unfold Fn.runF Fn.en; rw [if_pos h]; rfl
theorem runB_eq (ps : List Str) (n : Nat) (s : S) (bg ds : List D) (h : ds.length + 1 = ps.length) : Fn.runB ⟨ps, n, s⟩ bg ds = finB (evS s ⟨.bag bg :: (ds.map Slot.val ++ List.replicate (n - (ds.length + 1)) .no), []⟩) := by
  unfold Fn.runB Fn.enB; rw [if_pos h]; rfl
@[simp] theorem run_1 (p : Str) (n : Nat) (s : S) (a : D) : Fn.run ⟨[p], n, s⟩ [a] = fin (evS s ⟨.val a :: List.replicate (n - 1) .no, []⟩) := run_eq _ _ _ _ rfl
@[simp] theorem run_2 (p q : Str) (n : Nat) (s : S) (a b : D) : Fn.run ⟨[p, q], n, s⟩ [a, b] = fin (evS s ⟨.val a :: .val b :: List.replicate (n - 2) .no, []⟩) := run_eq _ _ _ _ rfl
@[simp] theorem run_3 (p q r : Str) (n : Nat) (s : S) (a b c : D) : Fn.run ⟨[p, q, r], n, s⟩ [a, b, c] = fin (evS s ⟨.val a :: .val b :: .val c :: List.replicate (n - 3) .no, []⟩) := run_eq _ _ _ _ rfl
@[simp] theorem run_4 (p q r t : Str) (n : Nat) (s : S) (a b c d : D) : Fn.run ⟨[p, q, r, t], n, s⟩ [a, b, c, d] = fin (evS s ⟨.val a :: .val b :: .val c :: .val d :: List.replicate (n - 4) .no, []⟩) := run_eq _ _ _ _ rfl
@[simp] theorem run_5 (p q r t u : Str) (n : Nat) (s : S) (a b c d f : D) : Fn.run ⟨[p, q, r, t, u], n, s⟩ [a, b, c, d, f] = fin (evS s ⟨.val a :: .val b :: .val c :: .val d :: .val f :: List.replicate (n - 5) .no, []⟩) := run_eq _ _ _ _ rfl
@[simp] theorem runF_1 (p : Str) (n : Nat) (s : S) (a : D) : Fn.runF ⟨[p], n, s⟩ [a] = finF (evS s ⟨.val a :: List.replicate (n - 1) .no, []⟩) := runF_eq _ _ _ _ rfl
@[simp] theorem runF_2 (p q : Str) (n : Nat) (s : S) (a b : D) : Fn.runF ⟨[p, q], n, s⟩ [a, b] = finF (evS s ⟨.val a :: .val b :: List.replicate (n - 2) .no, []⟩) := runF_eq _ _ _ _ rfl
@[simp] theorem runF_3 (p q r : Str) (n : Nat) (s : S) (a b c : D) : Fn.runF ⟨[p, q, r], n, s⟩ [a, b, c] = finF (evS s ⟨.val a :: .val b :: .val c :: List.replicate (n - 3) .no, []⟩) := runF_eq _ _ _ _ rfl
@[simp] theorem runF_4 (p q r t : Str) (n : Nat) (s : S) (a b c d : D) : Fn.runF ⟨[p, q, r, t], n, s⟩ [a, b, c, d] = finF (evS s ⟨.val a :: .val b :: .val c :: .val d :: List.replicate (n - 4) .no, []⟩) := runF_eq _ _ _ _ rfl
@[simp] theorem runB_1 (p : Str) (n : Nat) (s : S) (bg : List D) : Fn.runB ⟨[p], n, s⟩ bg [] = finB (evS s ⟨.bag bg :: List.replicate (n - 1) .no, []⟩) := runB_eq _ _ _ _ _ rfl
@[simp] theorem runB_2 (p q : Str) (n : Nat) (s : S) (bg : List D) (a : D) : Fn.runB ⟨[p, q], n, s⟩ bg [a] = finB (evS s ⟨.bag bg :: .val a :: List.replicate (n - 2) .no, []⟩) := runB_eq _ _ _ _ _ rfl
@[simp] theorem runB_3 (p q r : Str) (n : Nat) (s : S) (bg : List D) (a b : D) : Fn.runB ⟨[p, q, r], n, s⟩ bg [a, b] = finB (evS s ⟨.bag bg :: .val a :: .val b :: List.replicate (n - 3) .no, []⟩) := runB_eq _ _ _ _ _ rfl
@[simp] theorem runB_4 (p q r t : Str) (n : Nat) (s : S) (bg : List D) (a b c : D) : Fn.runB ⟨[p, q, r, t], n, s⟩ bg [a, b, c] = finB (evS s ⟨.bag bg :: .val a :: .val b :: .val c :: List.replicate (n - 4) .no, []⟩) := runB_eq _ _ _ _ _ rfl
/-! isinstance -/
@[simp] theorem isi_bool_none : isi1 "bool" .none = .ok (.bool false) := (rfl)
@[simp] theorem isi_bool_bool (b : Bool) : isi1 "bool" (.bool b) = .ok (.bool true) := (rfl)
@[simp] theorem isi_bool_int (i : Int) : isi1 "bool" (.int i) = .ok (.bool false) := (rfl)
@[simp] theorem isi_bool_str (z : Str) : isi1 "bool" (.str z) = .ok (.bool false) := (rfl)
@[simp] theorem isi_bool_tuple (l : List D) : isi1 "bool" (.tuple l) = .ok (.bool false) := (rfl)
@[simp] theorem isi_bool_list (l : List D) : isi1 "bool" (.list l) = .ok (.bool false) := (rfl)
@[simp] theorem isi_int_none : isi1 "int" .none = .ok (.bool false) := (rfl)
@[simp] theorem isi_int_bool (b : Bool) : isi1 "int" (.bool b) = .ok (.bool true) := (rfl)
@[simp] theorem isi_int_int (i : Int) : isi1 "int" (.int i) = .ok (.bool true) := (rfl)
@[simp] theorem isi_int_str (z : Str) : isi1 "int" (.str z) = .ok (.bool false) := (rfl)
@[simp] theorem isi_int_tuple (l : List D) : isi1 "int" (.tuple l) = .ok (.bool false) := (rfl)
@[simp] theorem isi_int_list (l : List D) : isi1 "int" (.list l) = .ok (.bool false) := (rfl)
@[simp] theorem isi_str_none : isi1 "str" .none = .ok (.bool false) := (rfl)
@[simp] theorem isi_str_bool (b : Bool) : isi1 "str" (.bool b) = .ok (.bool false) := (rfl)
@[simp] theorem isi_str_int (i : Int) : isi1 "str" (.int i) = .ok (.bool false) := (rfl)
@[simp] theorem isi_str_str (z : Str) : isi1 "str" (.str z) = .ok (.bool true) := (rfl)
@[simp] theorem isi_str_tuple (l : List D) : isi1 "str" (.tuple l) = .ok (.bool false) := (rfl)
@[simp] theorem isi_str_list (l : List D) : isi1 "str" (.list l) = .ok (.bool false) := (rfl)
@[simp] theorem isi_tuple_none : isi1 "tuple" .none = .ok (.bool false) := (rfl)
@[simp] theorem isi_tuple_bool (b : Bool) : isi1 "tuple" (.bool b) = .ok (.bool false) := (rfl)
@[simp] theorem isi_tuple_int (i : Int) : isi1 "tuple" (.int i) = .ok (.bool false) := (rfl)
@[simp] theorem isi_tuple_str (z : Str) : isi1 "tuple" (.str z) = .ok (.bool false) := (rfl)
@[simp] theorem isi_tuple_tuple (l : List D) : isi1 "tuple" (.tuple l) = .ok (.bool true) := (rfl)
@[simp] theorem isi_tuple_list (l : List D) : isi1 "tuple" (.list l) = .ok (.bool false) := (rfl)
@[simp] theorem isi_list_none : isi1 "list" .none = .ok (.bool false) := (rfl)
@[simp] theorem isi_list_bool (b : Bool) : isi1 "list" (.bool b) = .ok (.bool false) := (rfl)
@[simp] theorem isi_list_int (i : Int) : isi1 "list" (.int i) = .ok (.bool false) := (rfl)
@[simp] theorem isi_list_str (z : Str) : isi1 "list" (.str z) = .ok (.bool false) := (rfl)
@[simp] theorem isi_list_tuple (l : List D) : isi1 "list" (.tuple l) = .ok (.bool false) := (rfl)
@[simp] theorem isi_list_list (l : List D) : isi1 "list" (.list l) = .ok (.bool true) := (rfl)
end DV.Pl
set_option Elab.async false
set_option linter.all false
set_option maxRecDepth 100000
set_option maxHeartbeats 4000000
/-! Plain facts of data. -/
namespace DV.Pl
open PySem PySem.Spec PyProof.Rows L2 DV

/-- data at most n deep -/
structure Nc (n : Nat) (d : D) : Prop where
  lay : PyData.canLay0 d = true
  dep : PyData.depth d ≤ n
theorem layAll_iff : ∀ l : List D, PyData.canLayAll0 l = true ↔ ∀ x ∈ l, PyData.canLay0 x = true
  | [] => by simp [PyData.canLayAll0]
  | x :: l => by simp [PyData.canLayAll0, layAll_iff l]
theorem depAll_iff (n : Nat) : ∀ l : List D, PyData.depthAll l ≤ n ↔ ∀ x ∈ l, PyData.depth x ≤ n
  | [] => by simp [PyData.depthAll]
  | x :: l => by simp [PyData.depthAll, depAll_iff n l, Nat.max_le]
theorem Nc.mono {n k : Nat} {d : D} (h : Nc n d) (hk : n ≤ k) : Nc k d := ⟨h.lay, Nat.le_trans h.dep hk⟩
theorem Nc.shaped {n : Nat} {d : D} (h : Nc n d) (hn : n ≤ 64) : SeqAt.shaped d = true := by
  unfold SeqAt.shaped
  rw [h.lay, decide_eq_true (Nat.le_trans h.dep hn)]; rfl
theorem Nc.of {d : D} (h : SeqAt.shaped d = true) : Nc 64 d := by
  unfold SeqAt.shaped at h
  rw [Bool.and_eq_true, decide_eq_true_eq] at h
  exact ⟨h.1, h.2⟩
theorem nc_tup {n : Nat} {l : List D} : Nc (n + 1) (.tuple l) ↔ ∀ x ∈ l, Nc n x := by
  constructor
  · intro h x hx
    have a := h.lay; have b := h.dep
    simp only [PyData.canLay0, PyData.depth, Nat.add_le_add_iff_right] at a b
    exact ⟨(layAll_iff l).mp a x hx, (depAll_iff n l).mp b x hx⟩
  · intro h
    refine ⟨?_, ?_⟩
    · simp only [PyData.canLay0]; exact (layAll_iff l).mpr fun x hx => (h x hx).lay
    · simp only [PyData.depth, Nat.add_le_add_iff_right]; exact (depAll_iff n l).mpr fun x hx => (h x hx).dep
theorem nc_lst {n : Nat} {l : List D} : Nc (n + 1) (.list l) ↔ ∀ x ∈ l, Nc n x := by
  constructor
  · intro h x hx
    have a := h.lay; have b := h.dep
    simp only [PyData.canLay0, PyData.depth, Nat.add_le_add_iff_right] at a b
    exact ⟨(layAll_iff l).mp a x hx, (depAll_iff n l).mp b x hx⟩
  · intro h
    refine ⟨?_, ?_⟩
    · simp only [PyData.canLay0]; exact (layAll_iff l).mpr fun x hx => (h x hx).lay
    · simp only [PyData.depth, Nat.add_le_add_iff_right]; exact (depAll_iff n l).mpr fun x hx => (h x hx).dep
theorem nc_int (n : Nat) (i : Int) : Nc n (.int i) := ⟨by simp [PyData.canLay0], by simp [PyData.depth]⟩
theorem nc_bool (n : Nat) (i : Bool) : Nc n (.bool i) := ⟨by simp [PyData.canLay0], by simp [PyData.depth]⟩
theorem nc_none (n : Nat) : Nc n .none := ⟨by simp [PyData.canLay0], by simp [PyData.depth]⟩
theorem nc_str (n : Nat) {z : Str} (h : PyData.strOk z = true) : Nc n (.str z) := ⟨by simp [PyData.canLay0, h], by simp [PyData.depth]⟩
theorem nc_dict {n : Nat} {l} (h : Nc n (.dict l)) : False := by have := h.lay; simp [PyData.canLay0] at this
theorem nc_tup0 {l : List D} (h : Nc 0 (.tuple l)) : False := by have := h.dep; simp [PyData.depth] at this
theorem nc_lst0 {l : List D} (h : Nc 0 (.list l)) : False := by have := h.dep; simp [PyData.depth] at this
@[simp] theorem sh_int (i : Int) : SeqAt.shaped (.int i) = true := (nc_int 0 i).shaped (by decide)
@[simp] theorem sh_bool (i : Bool) : SeqAt.shaped (.bool i) = true := (nc_bool 0 i).shaped (by decide)
@[simp] theorem sh_none : SeqAt.shaped .none = true := (nc_none 0).shaped (by decide)
theorem sh_ints (l : List Int) : SeqAt.shaped (.list (l.map PyData.int)) = true := (nc_lst (n := 0).mpr fun x hx => by
  obtain ⟨i, _, rfl⟩ := List.mem_map.mp hx
  exact nc_int 0 i).shaped (by decide)
def zs (l : List Int) : List D := l.map PyData.int
@[simp] theorem zs_nil : zs [] = [] := (rfl)
@[simp] theorem zs_cons (a : Int) (l : List Int) : zs (a :: l) = .int a :: zs l := (rfl)
@[simp] theorem zs_app (k l : List Int) : zs (k ++ l) = zs k ++ zs l := List.map_append
@[simp] theorem zs_len (l : List Int) : (zs l).length = l.length := List.length_map _
@[simp] theorem sh_zs (l : List Int) : SeqAt.shaped (.list (zs l)) = true := sh_ints l
@[simp] theorem sh_nil : SeqAt.shaped (.list []) = true := sh_ints []
theorem zs_get (l : List Int) (i : Nat) : (zs l)[i]? = l[i]?.map PyData.int := List.getElem?_map
/-! equality of what is plain -/
theorem eqD_ok {d e : D} (h : SeqAt.shaped d = true) (k : SeqAt.shaped e = true) : eqD d e = .ok (.bool (PyData.eqv d e)) := by
  unfold eqD; rw [if_pos ⟨h, k⟩]
theorem neD_ok {d e : D} (h : SeqAt.shaped d = true) (k : SeqAt.shaped e = true) : neD d e = .ok (.bool (!PyData.eqv d e)) := by
  unfold neD; rw [if_pos ⟨h, k⟩]
@[simp] theorem eqD_int (i j : Int) : eqD (.int i) (.int j) = .ok (.bool (i == j)) := eqD_ok (sh_int i) (sh_int j)
@[simp] theorem neD_int (i j : Int) : neD (.int i) (.int j) = .ok (.bool (!(i == j))) := neD_ok (sh_int i) (sh_int j)
@[simp] theorem eqD_bool (i j : Bool) : eqD (.bool i) (.bool j) = .ok (.bool (i == j)) := eqD_ok (sh_bool i) (sh_bool j)
@[simp] theorem eqv_str (x y : Str) : PyData.eqv (.str x) (.str y) = (x == y) := by simp [PyData.eqv]
@[simp] theorem eqv_int (x y : Int) : PyData.eqv (.int x) (.int y) = (x == y) := by simp [PyData.eqv]
@[simp] theorem eqv_tup (x y : List D) : PyData.eqv (.tuple x) (.tuple y) = PyData.eqvAll x y := by simp [PyData.eqv]
@[simp] theorem eqv_list (x y : List D) : PyData.eqv (.list x) (.list y) = PyData.eqvAll x y := by simp [PyData.eqv]
@[simp] theorem eqvA_nil : PyData.eqvAll [] [] = true := by simp [PyData.eqvAll]
@[simp] theorem eqvA_nc (x : D) (y : List D) : PyData.eqvAll [] (x :: y) = false := by simp [PyData.eqvAll]
@[simp] theorem eqvA_cn (x : D) (y : List D) : PyData.eqvAll (x :: y) [] = false := by simp [PyData.eqvAll]
@[simp] theorem eqvA_cc (x z : D) (y w : List D) : PyData.eqvAll (x :: y) (z :: w) = (PyData.eqv x z && PyData.eqvAll y w) := by simp [PyData.eqvAll]
mutual
theorem eqv_refl : ∀ d : D, PyData.canLay0 d = true → PyData.eqv d d = true
  | .none, _ => by simp [PyData.eqv]
  | .bool _, _ => by simp [PyData.eqv]
  | .int _, _ => by simp [PyData.eqv]
  | .str _, _ => by simp [PyData.eqv]
  | .list l, h => by simp only [PyData.eqv]; exact eqvA_refl l (by simpa [PyData.canLay0] using h)
  | .tuple l, h => by simp only [PyData.eqv]; exact eqvA_refl l (by simpa [PyData.canLay0] using h)
  | .dict _, h => by simp [PyData.canLay0] at h
theorem eqvA_refl : ∀ l : List D, PyData.canLayAll0 l = true → PyData.eqvAll l l = true
  | [], _ => by simp
  | x :: l, h => by
    simp only [PyData.canLayAll0, Bool.and_eq_true] at h
    simp [eqv_refl x h.1, eqvA_refl l h.2]
end
/-! numbers -/
theorem log2_64 {i : Int} (h : i.natAbs < 18446744073709551616) : i.natAbs.log2 < 64 := by
  by_cases z : i.natAbs = 0
  · rw [z]; decide
  · exact (Nat.log2_lt z).mpr (by simpa using h)
theorem mulD_64 {i j : Int} (h : i.natAbs < 18446744073709551616) (k : j.natAbs < 18446744073709551616) : mulD (.int i) (.int j) = .ok (.int (i * j)) := by
  unfold mulD
  have a := log2_64 h; have b := log2_64 k
  simp only
  rw [if_pos (by omega)]
theorem modD_int {i j : Int} (h : j ≠ 0) : modD (.int i) (.int j) = .ok (.int (i.fmod j)) := by
  unfold modD; simp only; rw [if_pos h]
theorem divD_64 {i j : Int} (h : j ≠ 0) (k : j.natAbs < 18446744073709551616) : divD (.int i) (.int j) = .ok (.int (i.fdiv j)) := by
  unfold divD
  have b := log2_64 k
  simp only
  rw [if_pos ⟨h, by omega⟩]
theorem fmod_pos {i j : Int} (h : 0 < j) : i.fmod j = i % j := Int.fmod_eq_emod_of_nonneg i (Int.le_of_lt h)
theorem fdiv_pos {i j : Int} (h : 0 < j) : i.fdiv j = i / j := Int.fdiv_eq_ediv_of_nonneg i (Int.le_of_lt h)
/-! items -/
theorem atI_nat {t : Type} {l : List t} {i : Int} {x : t} (h0 : 0 ≤ i) (h : l[i.toNat]? = some x) : atI l i = some x := by
  have hl := (List.getElem?_eq_some_iff.mp h).1
  unfold atI ixN
  rw [if_pos h0, if_pos (by omega)]; exact h
theorem ix_tup {l : List D} {i : Int} {x : D} (h0 : 0 ≤ i) (h : l[i.toNat]? = some x) : ixD (.tuple l) (.int i) = .ok x := by
  unfold ixD; simp only; rw [atI_nat h0 h]
theorem ix_lst {l : List D} {i : Int} {x : D} (h0 : 0 ≤ i) (h : l[i.toNat]? = some x) : ixD (.list l) (.int i) = .ok x := by
  unfold ixD; simp only; rw [atI_nat h0 h]
theorem ix_scr {l : List D} {i : Int} {x : D} (h0 : 0 ≤ i) (h : l[i.toNat]? = some x) : ixD (scr l) (.int i) = .ok x := by
  unfold ixD; simp only; rw [atI_nat h0 h]
@[simp] theorem ixt0 (a : D) (l : List D) : ixD (.tuple (a :: l)) (.int 0) = .ok a := ix_tup (by decide) rfl
@[simp] theorem ixt1 (a b : D) (l : List D) : ixD (.tuple (a :: b :: l)) (.int 1) = .ok b := ix_tup (by decide) rfl
@[simp] theorem ixt2 (a b c : D) (l : List D) : ixD (.tuple (a :: b :: c :: l)) (.int 2) = .ok c := ix_tup (by decide) rfl
@[simp] theorem ixt3 (a b c d : D) (l : List D) : ixD (.tuple (a :: b :: c :: d :: l)) (.int 3) = .ok d := ix_tup (by decide) rfl
@[simp] theorem ixl0 (a : D) (l : List D) : ixD (.list (a :: l)) (.int 0) = .ok a := ix_lst (by decide) rfl
@[simp] theorem ixl1 (a b : D) (l : List D) : ixD (.list (a :: b :: l)) (.int 1) = .ok b := ix_lst (by decide) rfl
@[simp] theorem ixl2 (a b c : D) (l : List D) : ixD (.list (a :: b :: c :: l)) (.int 2) = .ok c := ix_lst (by decide) rfl
@[simp] theorem each_nil (g) (b) (e : En) : eachS g b [] e = .next e := (rfl)
def ceachB (g : D → En → Out En) (b : En → SO) (r : List D) (x : SO) : SO := match x with
    | .next e2 => eachS g b r e2
    | .brk e2 => .next e2
    | r => r
@[simp] theorem eachB_next (g b r) (e : En) : ceachB g b r (.next e) = eachS g b r e := (rfl)
@[simp] theorem eachB_brk (g b r) (e : En) : ceachB g b r (.brk e) = .next e := (rfl)
@[simp] theorem eachB_ret (g b r d) (e : En) : ceachB g b r (.ret d e) = .ret d e := (rfl)
@[simp] theorem eachB_retf (g b r d) (e : En) : ceachB g b r (.retf d e) = .retf d e := (rfl)
@[simp] theorem eachB_err (g b r c) : ceachB g b r (.err c) = .err c := (rfl)
def ceachC (g : D → En → Out En) (b : En → SO) (r : List D) (e : En) : SO := ceachB g b r (b e)
@[simp] theorem r_ceachC (g b r) (e : En) : ceachC g b r e = ceachB g b r (b e) := (rfl)
theorem each_cons (g) (b) (d : D) (r : List D) (e : En) : eachS g b (d :: r) e = (g d e).so (ceachC g b r) := rfl
def cloopB (c : En → Out (Bool × En)) (b : En → SO) (n : Nat) (x : SO) : SO := match x with
    | .next e2 => loopS c b n e2
    | .brk e2 => .next e2
    | r => r
@[simp] theorem loopB_next (c b n) (e : En) : cloopB c b n (.next e) = loopS c b n e := (rfl)
@[simp] theorem loopB_brk (c b n) (e : En) : cloopB c b n (.brk e) = .next e := (rfl)
@[simp] theorem loopB_ret (c b n d) (e : En) : cloopB c b n (.ret d e) = .ret d e := (rfl)
@[simp] theorem loopB_retf (c b n d) (e : En) : cloopB c b n (.retf d e) = .retf d e := (rfl)
@[simp] theorem loopB_err (c b n x) : cloopB c b n (.err x) = .err x := (rfl)
def cloopC (c : En → Out (Bool × En)) (b : En → SO) (n : Nat) (p : Bool × En) : SO := if p.1 = true then cloopB c b n (b p.2) else .next p.2
@[simp] theorem r_cloopC (c b n) (t : Bool) (e : En) : cloopC c b n (t, e) = if t = true then cloopB c b n (b e) else .next e := (rfl)
theorem loop_succ (c : En → Out (Bool × En)) (b : En → SO) (n : Nat) (e : En) : loopS c b (n + 1) e = (c e).so (cloopC c b n) := rfl
/-- a slot that is not the list got -/
def nb : Slot → Bool
  | .bag _ => false
  | _ => true
@[simp] theorem nb_v (d : D) : nb (.val d) = true := (rfl)
@[simp] theorem nb_o (d : List D) : nb (.own d) = true := (rfl)
@[simp] theorem nb_n : nb .no = true := (rfl)
theorem free_nb {x : Slot} (h : nb x = true) (l : List Slot) (st) : En.free ⟨x :: l, st⟩ 0 = true := by
  cases x <;> first | rfl | (cases h)
@[simp] theorem wipe_def (sl : List Slot) (st) (vs : List Nat) : En.wipe ⟨sl, st⟩ vs = ⟨wipeL sl vs, st⟩ := (rfl)
@[simp] theorem wipeL_nil (sl : List Slot) : wipeL sl [] = sl := (rfl)
@[simp] theorem wipeL_cons (sl : List Slot) (v : Nat) (vs : List Nat) : wipeL sl (v :: vs) = (wipeL sl vs).set v .no := (rfl)
@[simp] theorem back_def (sl old : List Slot) (st st2) (vs : List Nat) : En.back ⟨sl, st⟩ ⟨old, st2⟩ vs = ⟨backL sl old vs, st⟩ := (rfl)
@[simp] theorem backL_nil (sl old : List Slot) : backL sl old [] = sl := (rfl)
@[simp] theorem backL_cons (sl old : List Slot) (v : Nat) (vs : List Nat) : backL sl old (v :: vs) = (backL sl old vs).set v (old.getD v .no) := (rfl)
/-- nothing own in a slot -/
def notOwn : Option Slot → Bool
  | some (.own _) => false
  | some (.bag _) => false
  | _ => true
@[simp] theorem no_v (d : D) : notOwn (some (.val d)) = true := (rfl)
@[simp] theorem no_n : notOwn (some .no) = true := (rfl)
@[simp] theorem no_o : notOwn none = true := (rfl)
theorem rngD_ok {n : Nat} (h : n < 1000000) : rngD (.int 0) (.int (n : Int)) = .ok (rngL 0 n) := by
  unfold rngD
  simp only
  rw [if_pos (by omega), Int.sub_zero, Int.toNat_natCast]
/-! comprehensions -/
@[simp] theorem ownFree_nil (sl : List Slot) : ownFree sl [] = true := (rfl)
@[simp] theorem ownFree_cons (sl : List Slot) (i : Nat) (r : List Nat) : ownFree sl (i :: r) = (notOwn sl[i]? && ownFree sl r) := (rfl)
@[simp] theorem comp_nil (g c f vs) (e : En) (acc) : compL g c f vs [] e acc = .ok (acc, e) := (rfl)
def cmF (g : D → En → Out En) (c : En → Out (Bool × En)) (f : En → Out (D × En)) (vs : List Nat) (r acc : List D) (q : D × En) : Out (List D × En) := if acc.length < 16777216 then compL g c f vs r (q.2.wipe vs) (acc ++ [q.1]) else .bad
def cmB (g : D → En → Out En) (c : En → Out (Bool × En)) (f : En → Out (D × En)) (vs : List Nat) (r acc : List D) (p : Bool × En) : Out (List D × En) := if p.1 = true then (f p.2).bind (cmF g c f vs r acc) else compL g c f vs r (p.2.wipe vs) acc
def cmA (g : D → En → Out En) (c : En → Out (Bool × En)) (f : En → Out (D × En)) (vs : List Nat) (r acc : List D) (e : En) : Out (List D × En) := (c e).bind (cmB g c f vs r acc)
theorem comp_cons (g c f vs) (d : D) (r : List D) (e : En) (acc : List D) : compL g c f vs (d :: r) e acc = (g d e).bind (cmA g c f vs r acc) := rfl
/-- a comprehension whose turns are known: every turn goes from e to e, adds what h says -/
theorem comp_map {g : D → En → Out En} {c : En → Out (Bool × En)} {f : En → Out (D × En)} {vs : List Nat} {e : En} {h : D → Option D} : ∀ (l : List D), (∀ d ∈ l, ∃ e1, g d e = .ok e1 ∧ (match h d with
    | some y => ∃ e2 e3, c e1 = .ok (true, e2) ∧ f e2 = .ok (y, e3) ∧ e3.wipe vs = e
    | none => ∃ e2, c e1 = .ok (false, e2) ∧ e2.wipe vs = e)) → ∀ acc : List D, acc.length + l.length ≤ 16777216 → compL g c f vs l e acc = .ok (acc ++ l.filterMap h, e)
  | [], _, acc, _ => by simp
  | d :: l, H, acc, ha => by
    obtain ⟨e1, h1, h2⟩ := H d (by simp)
    rw [comp_cons, h1]
    simp only [Out.bind_ok, cmA]
    simp only [List.length_cons] at ha
    cases hd : h d with
    | some y =>
      rw [hd] at h2
      obtain ⟨e2, e3, a, b, w⟩ := h2
      rw [a]
      simp only [Out.bind_ok, cmB, if_pos rfl]
      rw [b]
      simp only [Out.bind_ok, cmF]
      have hlt : acc.length < 16777216 := by omega
      have hl2 : (acc ++ [y]).length + l.length ≤ 16777216 := by rw [List.length_append]; simp only [List.length_cons, List.length_nil]; omega
      rw [if_pos hlt, w, comp_map l (fun x hx => H x (by simp [hx])) (acc ++ [y]) hl2]
      simp [hd]
    | none =>
      rw [hd] at h2
      obtain ⟨e2, a, w⟩ := h2
      rw [a]
      simp only [Out.bind_ok, cmB]
      rw [if_neg (by decide), w, comp_map l (fun x hx => H x (by simp [hx])) acc (by omega)]
      simp [hd]
theorem put_wipe {e : En} {i : Nat} {x : Slot} (hs : e.sl[i]? = some .no) : (e.put i x).wipe [i] = e := by
  obtain ⟨sl, st⟩ := e
  show (⟨(sl.set i x).set i .no, st⟩ : En) = _
  rw [List.set_set]
  congr 1
  apply List.ext_getElem?
  intro j
  by_cases h : i = j
  · subst h
    rw [List.getElem?_set_self (List.getElem?_eq_some_iff.mp hs).1]; exact hs.symm
  · rw [List.getElem?_set_ne h]
theorem free_no {e : En} {i : Nat} (hs : e.sl[i]? = some .no) : e.free i = true := by
  unfold En.free; rw [hs]
/-- [f for x in l], [f for x in l if c] -/
theorem comp_name {i : Nat} {f : E} {e : En} (h : D → D) (l : List D) (hs : e.sl[i]? = some .no) (hl : l.length ≤ 16777216) (hf : ∀ d ∈ l, (ev f).v (e.put i (.val d)) = .ok (h d, e.put i (.val d))) :
    compL (asg (.name i)) (ev .no).c (ev f).v [i] l e [] = .ok (l.map h, e) := by
  rw [comp_map (e := e) (h := fun d => some (h d)) l (fun d hd => ?_) [] (by simpa using hl)]
  · simp [List.filterMap_eq_map]
  · refine ⟨e.put i (.val d), ?_, e.put i (.val d), e.put i (.val d), rfl, hf d hd, put_wipe hs⟩
    rw [asg_name, if_pos (free_no hs)]
theorem comp_namec {i : Nat} {f c : E} {e : En} (p : D → Bool) (h : D → D) (l : List D) (hs : e.sl[i]? = some .no) (hl : l.length ≤ 16777216) (hc : ∀ d ∈ l, (ev c).c (e.put i (.val d)) = .ok (p d, e.put i (.val d))) (hf : ∀ d ∈ l, p d = true → (ev f).v (e.put i (.val d)) = .ok (h d, e.put i (.val d))) :
    compL (asg (.name i)) (ev c).c (ev f).v [i] l e [] = .ok ((l.filter p).map h, e) := by
  rw [comp_map (e := e) (h := fun d => if p d = true then some (h d) else none) l (fun d hd => ?_) [] (by simpa using hl)]
  · congr 2
    clear hl hc hf
    induction l with
    | nil => rfl
    | cons a l ih =>
      rw [List.nil_append] at ih
      by_cases hp : p a = true <;> simp [hp, ih]
  · refine ⟨e.put i (.val d), ?_, ?_⟩
    · rw [asg_name, if_pos (free_no hs)]
    · by_cases hp : p d = true
      · rw [if_pos hp]
        exact ⟨_, _, by rw [hc d hd, hp], hf d hd hp, put_wipe hs⟩
      · rw [if_neg hp]
        refine ⟨_, ?_, put_wipe (x := .val d) hs⟩
        rw [hc d hd]
        simp only [Bool.not_eq_true] at hp
        rw [hp]
theorem put2_wipe {e : En} {i j : Nat} {x y : Slot} (hij : i ≠ j) (hi : e.sl[i]? = some .no) (hj : e.sl[j]? = some .no) : ((e.put i x).put j y).wipe [i, j] = e := by
  obtain ⟨sl, st⟩ := e
  have li := (List.getElem?_eq_some_iff.mp hi).1
  have lj := (List.getElem?_eq_some_iff.mp hj).1
  show (⟨((((sl.set i x).set j y).set j .no).set i .no), st⟩ : En) = _
  congr 1
  apply List.ext_getElem?
  intro k
  by_cases h : i = k
  · subst h
    rw [List.getElem?_set_self (by simpa using li)]; exact hi.symm
  · rw [List.getElem?_set_ne h, List.set_set]
    by_cases h2 : j = k
    · subst h2
      rw [List.getElem?_set_self (by simpa using lj)]; exact hj.symm
    · rw [List.getElem?_set_ne h2, List.getElem?_set_ne h]
/-- [f for x, y in l] -/
theorem comp_name2 {t : Type} {i j : Nat} {f : E} {e : En} (A B : t → D) (h : t → D) (l : List t) (hij : i ≠ j) (hi : e.sl[i]? = some .no) (hj : e.sl[j]? = some .no) (hl : l.length ≤ 16777216)
    (hf : ∀ d ∈ l, (ev f).v ((e.put i (.val (A d))).put j (.val (B d))) = .ok (h d, (e.put i (.val (A d))).put j (.val (B d)))) : ∀ acc : List D, acc.length + l.length ≤ 16777216 →
    compL (asg (.cons (.name i) (.cons (.name j) .nil))) (ev .no).c (ev f).v [i, j] (l.map fun x => .tuple [A x, B x]) e acc = .ok (acc ++ l.map h, e) := by
  intro acc
  clear hl
  induction l generalizing acc with
  | nil => intro _; simp
  | cons x l ih =>
    intro ha
    simp only [List.length_cons] at ha
    have fj : (e.put i (.val (A x))).free j = true := by
      unfold En.free
      show (match (e.sl.set i (.val (A x)))[j]? with | some (.bag _) => false | some _ => true | none => false) = true
      rw [List.getElem?_set_ne hij, hj]
    have hlt : acc.length < 16777216 := by omega
    have hl2 : (acc ++ [h x]).length + l.length ≤ 16777216 := by rw [List.length_append]; simp only [List.length_cons, List.length_nil]; omega
    rw [List.map_cons, comp_cons, asg_cons, asg_name, if_pos (free_no hi), Out.bind_ok, tg2_cons, asg_name, if_pos fj, Out.bind_ok, tg2_nil, Out.bind_ok]
    simp only [cmA, c_no, Out.bind_ok, cmB, if_pos rfl]
    rw [if_pos trivial, hf x (by simp), Out.bind_ok]
    simp only [cmF]
    rw [if_pos hlt, put2_wipe hij hi hj, ih (fun d hd => hf d (by simp [hd])) (acc ++ [h x]) hl2]
    simp
theorem boolsOf_map {t : Type} (p : t → Bool) : ∀ l : List t, boolsOf (l.map fun x => PyData.bool (p x)) = some (l.map p)
  | [] => rfl
  | x :: l => by simp [boolsOf, boolsOf_map p l]
theorem all_map {t : Type} (p : t → Bool) (l : List t) : allD [.list (l.map fun x => PyData.bool (p x))] = .ok (.bool (l.all p)) := by
  unfold allD; simp only; rw [boolsOf_map]; simp [List.all_map]
theorem any_map {t : Type} (p : t → Bool) (l : List t) : anyD [.list (l.map fun x => PyData.bool (p x))] = .ok (.bool (l.any p)) := by
  unfold anyD; simp only; rw [boolsOf_map]; simp [List.any_map]
/-- a while that divides until nothing is left -/
theorem gcd_loop {c : En → Out (Bool × En)} {b : En → SO} (st : Nat → Nat → En) (hc : ∀ x y, c (st x y) = .ok (decide (y ≠ 0), st x y)) (hb : ∀ x y, y ≠ 0 → b (st x y) = .next (st y (x % y))) :
    ∀ (k n x y : Nat), y < 2 ^ k → 2 * k + 1 ≤ n → loopS c b n (st x y) = .next (st (Nat.gcd x y) 0) := by
  have stop : ∀ (n x : Nat), 1 ≤ n → loopS c b n (st x 0) = .next (st x 0) := fun n x hn => by
    obtain ⟨m, rfl⟩ : ∃ m, n = m + 1 := ⟨n - 1, by omega⟩
    rw [loop_succ, hc]
    simp
  have step : ∀ (n x y : Nat), y ≠ 0 → loopS c b (n + 1) (st x y) = loopS c b n (st y (x % y)) := fun n x y hy => by
    rw [loop_succ, hc]
    simp [hy, hb x y hy]
  have gs : ∀ x y : Nat, Nat.gcd x y = Nat.gcd y (x % y) := fun x y => by
    rw [Nat.gcd_comm x y, Nat.gcd_rec y x, Nat.gcd_comm]
  intro k
  induction k with
  | zero =>
    intro n x y hy hn
    have : y = 0 := by simpa using hy
    subst this
    rw [stop n x (by omega)]; simp
  | succ k ih =>
    intro n x y hy hn
    by_cases h0 : y = 0
    · subst h0; rw [stop n x (by omega)]; simp
    · obtain ⟨m, rfl⟩ : ∃ m, n = m + 1 + 1 := ⟨n - 2, by omega⟩
      rw [step _ x y h0, gs x y]
      have hr : x % y < y := Nat.mod_lt _ (by omega)
      generalize x % y = r at hr
      by_cases h1 : r = 0
      · subst h1; rw [stop _ y (by omega)]; simp
      · rw [step _ y r h1, gs y r]
        refine ih m r (y % r) ?_ (by omega)
        have h2 : y % r < r := Nat.mod_lt _ (by omega)
        have h3 : r + y % r ≤ y := by
          have := Nat.div_add_mod y r
          have hq : 1 ≤ y / r := Nat.div_pos (by omega) (by omega)
          have : r * 1 ≤ r * (y / r) := Nat.mul_le_mul_left r hq
          omega
        have : 2 ^ (k + 1) = 2 * 2 ^ k := by rw [Nat.pow_succ, Nat.mul_comm]
        omega
theorem fmod_nat (x y : Nat) : ((x : Int)).fmod (y : Int) = ((x % y : Nat) : Int) := by
  rw [Int.fmod_eq_emod_of_nonneg _ (by omega)]; exact (Int.natCast_emod x y).symm
theorem abs_if (i : Int) : (if i < 0 then -i else i) = ((i.natAbs : Nat) : Int) := by
  by_cases h : i < 0
  · rw [if_pos h]; omega
  · rw [if_neg h]; omega
/-- a fraction in lowest terms -/
theorem low_parts {a b : Int} (hb : 0 < b) : ∃ g x y : Int, 0 < g ∧ a = g * x ∧ b = g * y ∧ a / (Int.gcd a b : Nat) = x ∧ b / (Int.gcd a b : Nat) = y ∧ Int.gcd x y = 1 ∧ g = (Int.gcd a b : Nat) := by
  have hg : 0 < Int.gcd a b := Int.gcd_pos_of_ne_zero_right _ (by omega)
  refine ⟨(Int.gcd a b : Nat), a / (Int.gcd a b : Nat), b / (Int.gcd a b : Nat), by omega, (Int.mul_ediv_cancel' (Int.gcd_dvd_left ..)).symm, (Int.mul_ediv_cancel' (Int.gcd_dvd_right ..)).symm, rfl, rfl, ?_, rfl⟩
  exact Int.gcd_ediv_gcd_ediv_gcd hg
def asub1 (i : Nat) (e : En) (ds : List D) : Out En := .ok (e.put i (.own ds))
def asub2 (i : Nat) (k d : D) (e : En) (ds : List D) : Out En := (setL ds k d).bind (asub1 i e)
def asub3 (i : Nat) (d : D) (e : En) (k : D) : Out En := (e.getOwn i).bind (asub2 i k d e)
@[simp] theorem r_asub1 (i : Nat) (e : En) (ds : List D) : asub1 i e ds = .ok (e.put i (.own ds)) := (rfl)
@[simp] theorem r_asub2 (i : Nat) (k d : D) (e : En) (ds : List D) : asub2 i k d e ds = (setL ds k d).bind (asub1 i e) := (rfl)
@[simp] theorem r_asub3 (i : Nat) (d : D) (e : En) (k : D) : asub3 i d e k = (e.getOwn i).bind (asub2 i k d e) := (rfl)
@[simp] theorem asg_sub (i j : Nat) (d : D) (e : En) : asg (.sub i j) d e = (e.get j).bind (asub3 i d e) := (rfl)
theorem setL_nat {l : List D} {i : Int} (x : D) (h0 : 0 ≤ i) (h : i < l.length) : setL l (.int i) x = .ok (l.set i.toNat x) := by
  unfold setL L2.ixN
  simp only
  rw [if_pos h0, if_pos h]
@[simp] theorem setL_0 (a : D) (l : List D) (x : D) : setL (a :: l) (.int 0) x = .ok (x :: l) := by
  rw [setL_nat x (by decide) (by simp only [List.length_cons]; omega)]; rfl
@[simp] theorem setL_1 (a b : D) (l : List D) (x : D) : setL (a :: b :: l) (.int 1) x = .ok (a :: x :: l) := by
  rw [setL_nat x (by decide) (by simp only [List.length_cons]; omega)]; rfl
end DV.Pl
set_option Elab.async false
set_option linter.all false
set_option maxRecDepth 100000
set_option maxHeartbeats 4000000
/-! Legs, boats and plans with types. -/
namespace DV.Pl
open PySem PySem.Spec PyProof.Rows L2 DV

inductive Lg where
  | to (p : Int) | dr (p : Int) | wa (m : Int)
  deriving DecidableEq
def Lg.d : Lg → D
  | .to p => .tuple [.str "to", .int p]
  | .dr p => .tuple [.str "drift", .int p]
  | .wa m => .tuple [.str "wait", .int m]
def Lg.w : Lg → Str
  | .to _ => "to"
  | .dr _ => "drift"
  | .wa _ => "wait"
def Lg.n : Lg → Int
  | .to p => p
  | .dr p => p
  | .wa m => m
theorem Lg.d_eq (g : Lg) : g.d = .tuple [.str g.w, .int g.n] := by cases g <;> rfl
/-- the number of a leg is one that is let -/
def Lg.rng : Lg → Bool
  | .to p => decide (0 ≤ p) && decide (p ≤ 9)
  | .dr p => decide (0 ≤ p) && decide (p ≤ 9)
  | .wa m => decide (1 ≤ m) && decide (m ≤ 4)
/-- where one is behind a leg -/
def Lg.go (s : Int) : Lg → Int
  | .to p => p
  | .dr p => p
  | .wa _ => s
/-- a leg that goes somewhere else from s, with the stream where it drifts -/
def Lg.mov (s : Int) : Lg → Bool
  | .to p => !decide (p = s)
  | .dr p => decide (p < s)
  | .wa _ => true
def movs (s : Int) : List Lg → Bool
  | [] => true
  | x :: r => x.mov s && movs (x.go s) r
structure Bt where
  v : Int
  s : Int
  l : List Lg
  deriving DecidableEq
def Bt.d (b : Bt) : D := .tuple [.int b.v, .int b.s, .tuple (b.l.map Lg.d)]
def Bt.ok (b : Bt) : Bool := (decide (1 ≤ b.v) && decide (b.v ≤ 6)) && ((decide (0 ≤ b.s) && decide (b.s ≤ 9)) && (decide (b.l.length ≤ 4) && (b.l.all Lg.rng && movs b.s b.l)))
/-- no wait is for more than n -/
def Lg.few (n : Nat) : Lg → Bool
  | .wa m => decide (m ≤ (n : Int))
  | _ => true
structure Pn where
  a : Bt
  b : Bt
  deriving DecidableEq
def Pn.d (p : Pn) : D := .tuple [p.a.d, p.b.d]
def Pn.ok (p : Pn) : Bool := (p.a.ok && p.b.ok) && (p.a.l.all (Lg.few p.b.l.length) && p.b.l.all (Lg.few p.a.l.length))
/-! data read as these -/
def toLg : D → Option Lg
  | .tuple [.str w, .int n] => if w = "to" then some (.to n) else if w = "drift" then some (.dr n) else if w = "wait" then some (.wa n) else none
  | _ => none
def toLgs : List D → Option (List Lg)
  | [] => some []
  | x :: r => match toLg x, toLgs r with
    | some a, some b => some (a :: b)
    | _, _ => none
def toBt : D → Option Bt
  | .tuple [.int v, .int s, .tuple l] => (toLgs l).map fun l => ⟨v, s, l⟩
  | _ => none
def toPn : D → Option Pn
  | .tuple [a, b] => match toBt a, toBt b with
    | some a, some b => some ⟨a, b⟩
    | _, _ => none
  | _ => none
theorem toLg_eq {x : D} {g : Lg} (h : toLg x = some g) : x = g.d := by
  unfold toLg at h
  split at h
  · split at h
    · cases h; rename_i e; subst e; rfl
    · split at h
      · cases h; rename_i e; subst e; rfl
      · split at h
        · cases h; rename_i e; subst e; rfl
        · cases h
  · cases h
theorem toLgs_eq : ∀ {l : List D} {g : List Lg}, toLgs l = some g → l = g.map Lg.d
  | [], g, h => by cases h; rfl
  | x :: l, g, h => by
    unfold toLgs at h
    split at h
    · rename_i a b e1 e2
      cases h
      rw [toLg_eq e1, toLgs_eq e2]; rfl
    · cases h
theorem toBt_eq {x : D} {b : Bt} (h : toBt x = some b) : x = b.d := by
  unfold toBt at h
  split at h
  · rename_i v s l
    cases e : toLgs l with
    | none => rw [e] at h; cases h
    | some g => rw [e] at h; cases h; rw [toLgs_eq e]; rfl
  · cases h
theorem toPn_eq {x : D} {b : Pn} (h : toPn x = some b) : x = b.d := by
  unfold toPn at h
  split at h
  · split at h
    · rename_i e1 e2; cases h; rw [toBt_eq e1, toBt_eq e2]; rfl
    · cases h
  · cases h
@[simp] theorem toLg_d (g : Lg) : toLg g.d = some g := by
  cases g
  · rfl
  · rename_i n
    show (if ("drift" : Str) = "to" then some (Lg.to n) else if ("drift" : Str) = "drift" then some (Lg.dr n) else if ("drift" : Str) = "wait" then some (Lg.wa n) else none) = _
    rw [if_neg (by decide), if_pos rfl]
  · rename_i n
    show (if ("wait" : Str) = "to" then some (Lg.to n) else if ("wait" : Str) = "drift" then some (Lg.dr n) else if ("wait" : Str) = "wait" then some (Lg.wa n) else none) = _
    rw [if_neg (by decide), if_neg (by decide), if_pos rfl]
@[simp] theorem toLgs_d : ∀ l : List Lg, toLgs (l.map Lg.d) = some l
  | [] => rfl
  | x :: l => by simp [toLgs, toLgs_d l]
@[simp] theorem toBt_d (b : Bt) : toBt b.d = some b := by simp [toBt, Bt.d]
@[simp] theorem toPn_d (p : Pn) : toPn p.d = some p := by simp [toPn, Pn.d]
def legB (d : D) : Bool := match toLg d with
  | some g => g.rng
  | none => false
def boatB (d : D) : Bool := match toBt d with
  | some b => b.ok
  | none => false
def planB (d : D) : Bool := match toPn d with
  | some p => p.ok
  | none => false
theorem legs_some : ∀ {l : List D}, (l.all legB) = true → ∃ gs : List Lg, l = gs.map Lg.d ∧ gs.all Lg.rng = true
  | [], _ => ⟨[], rfl, rfl⟩
  | x :: l, h => by
    simp only [List.all_cons, Bool.and_eq_true] at h
    obtain ⟨gs, e, r⟩ := legs_some h.2
    have h1 := h.1
    unfold legB at h1
    split at h1
    · rename_i g eg
      exact ⟨g :: gs, by rw [toLg_eq eg, e]; rfl, by simp [h1, r]⟩
    · cases h1
theorem legB_d (g : Lg) : legB g.d = g.rng := by simp [legB]
theorem legs_all (gs : List Lg) : (gs.map Lg.d).all legB = gs.all Lg.rng := by
  rw [List.all_map]
  congr 1
  funext g
  exact legB_d g
/-- a tuple that is no boat -/
theorem boatB_no {d : D} (h : ∀ b : Bt, d = b.d → b.ok = true → False) : boatB d = false := by
  cases e : boatB d with
  | false => rfl
  | true =>
    unfold boatB at e
    split at e
    · rename_i b eb; exact (h b (toBt_eq eb) e).elim
    · cases e
theorem boatB_d (b : Bt) : boatB b.d = b.ok := by simp [boatB]
theorem Bt.ok_iff (b : Bt) : b.ok = true ↔ (1 ≤ b.v ∧ b.v ≤ 6) ∧ (0 ≤ b.s ∧ b.s ≤ 9) ∧ b.l.length ≤ 4 ∧ b.l.all Lg.rng = true ∧ movs b.s b.l = true := by
  simp only [Bt.ok, Bool.and_eq_true, decide_eq_true_eq]
theorem Pn.ok_iff' (p : Pn) : p.ok = true ↔ p.a.ok = true ∧ p.b.ok = true ∧ p.a.l.all (Lg.few p.b.l.length) = true ∧ p.b.l.all (Lg.few p.a.l.length) = true := by
  simp only [Pn.ok, Bool.and_eq_true, and_assoc]
theorem boatB_some {d : D} (h : boatB d = true) : ∃ b : Bt, d = b.d ∧ b.ok = true := by
  unfold boatB at h
  split at h
  · rename_i b e; exact ⟨b, toBt_eq e, h⟩
  · cases h
theorem planB_some {d : D} (h : planB d = true) : ∃ p : Pn, d = p.d ∧ p.ok = true := by
  unfold planB at h
  split at h
  · rename_i b e; exact ⟨b, toPn_eq e, h⟩
  · cases h
theorem planB_d (p : Pn) : planB p.d = p.ok := by simp [planB]
def plainB : D → Bool
  | .int _ => true
  | _ => false
def wholeB (d : D) (lo hi : Int) : Bool := match d with
  | .int i => decide (lo ≤ i) && decide (i ≤ hi)
  | _ => false
@[simp] theorem ne_dt : (("drift" : Str) = "to") = False := eq_false (by decide)
@[simp] theorem ne_wt : (("wait" : Str) = "to") = False := eq_false (by decide)
@[simp] theorem ne_wd : (("wait" : Str) = "drift") = False := eq_false (by decide)
@[simp] theorem ne_td : (("to" : Str) = "drift") = False := eq_false (by decide)
@[simp] theorem ne_tw : (("to" : Str) = "wait") = False := eq_false (by decide)
@[simp] theorem ne_dw : (("drift" : Str) = "wait") = False := eq_false (by decide)
theorem so_to : PyData.strOk "to" = true := by decide +kernel
theorem so_drift : PyData.strOk "drift" = true := by decide +kernel
theorem so_wait : PyData.strOk "wait" = true := by decide +kernel
theorem sh_str {z : Str} (h : PyData.strOk z = true) : SeqAt.shaped (.str z) = true := (nc_str 0 h).shaped (by decide)
theorem eqD_str {z w : Str} (h : SeqAt.shaped (.str z) = true) (k : PyData.strOk w = true) : eqD (.str z) (.str w) = .ok (.bool (decide (z = w))) := by
  rw [eqD_ok h (sh_str k), eqv_str]; rfl
theorem neD_str {z w : Str} (h : SeqAt.shaped (.str z) = true) (k : PyData.strOk w = true) : neD (.str z) (.str w) = .ok (.bool (!decide (z = w))) := by
  rw [neD_ok h (sh_str k), eqv_str]; rfl
theorem sh_str2 {x y : Str} (hx : PyData.strOk x = true) (hy : PyData.strOk y = true) : SeqAt.shaped (.list [.str x, .str y]) = true := (nc_lst (n := 0).mpr fun z hz => by
  simp at hz
  rcases hz with rfl | rfl
  · exact nc_str 0 hx
  · exact nc_str 0 hy).shaped (by decide)
theorem in_tup2 {w x y : Str} (b : Bool) (h : SeqAt.shaped (.str w) = true) (hx : PyData.strOk x = true) (hy : PyData.strOk y = true) : isIn b (.str w) (.tuple [.str x, .str y]) = .ok (.bool (b != (decide (w = x) || decide (w = y)))) := by
  unfold isIn
  simp only
  rw [if_pos ⟨h, sh_str2 hx hy, rfl, rfl⟩]
  simp only [List.any_cons, List.any_nil, eqv_str, Bool.or_false]
  rw [show (x == w) = decide (w = x) from decide_eq_decide.mpr eq_comm, show (y == w) = decide (w = y) from decide_eq_decide.mpr eq_comm]
theorem in_lst2 {w x y : Str} (b : Bool) (h : SeqAt.shaped (.str w) = true) (hx : PyData.strOk x = true) (hy : PyData.strOk y = true) : isIn b (.str w) (.list [.str x, .str y]) = .ok (.bool (b != (decide (w = x) || decide (w = y)))) := by
  unfold isIn
  simp only
  rw [if_pos ⟨h, sh_str2 hx hy⟩]
  simp only [List.any_cons, List.any_nil, eqv_str, Bool.or_false]
  rw [show (x == w) = decide (w = x) from decide_eq_decide.mpr eq_comm, show (y == w) = decide (w = y) from decide_eq_decide.mpr eq_comm]
theorem nc_lg (g : Lg) : Nc 1 g.d := by
  cases g
  · exact nc_tup.mpr fun x hx => by
      simp at hx
      rcases hx with rfl | rfl
      · exact nc_str 0 so_to
      · exact nc_int 0 _
  · exact nc_tup.mpr fun x hx => by
      simp at hx
      rcases hx with rfl | rfl
      · exact nc_str 0 so_drift
      · exact nc_int 0 _
  · exact nc_tup.mpr fun x hx => by
      simp at hx
      rcases hx with rfl | rfl
      · exact nc_str 0 so_wait
      · exact nc_int 0 _
theorem nc_bt (b : Bt) : Nc 3 b.d := nc_tup.mpr fun x hx => by
  simp at hx
  rcases hx with rfl | rfl | rfl
  · exact nc_int 2 _
  · exact nc_int 2 _
  · exact nc_tup.mpr fun y hy => by
      obtain ⟨g, _, rfl⟩ := List.mem_map.mp hy
      exact nc_lg g
theorem nc_pn (p : Pn) : Nc 4 p.d := nc_tup.mpr fun x hx => by
  simp at hx
  rcases hx with rfl | rfl
  · exact nc_bt _
  · exact nc_bt _
end DV.Pl
set_option Elab.async false
set_option linter.all false
set_option maxRecDepth 100000
set_option maxHeartbeats 4000000
/-! Fractions as pairs in lowest terms. -/
namespace DV.Pl
open PySem PySem.Spec PyProof.Rows L2 DV

/-- not more than k bits -/
def Sm (k : Nat) (n : Int) : Prop := n.natAbs < 2 ^ k
theorem Sm.mono {k l : Nat} {n : Int} (h : Sm k n) (hk : k ≤ l) : Sm l n := Nat.lt_of_lt_of_le h (Nat.pow_le_pow_right (by decide) hk)
theorem Sm.mul {k l : Nat} {m n : Int} (h : Sm k m) (g : Sm l n) : Sm (k + l) (m * n) := by
  unfold Sm at *
  rw [Int.natAbs_mul, Nat.pow_add]
  exact Nat.mul_lt_mul'' h g
theorem Sm.add {k : Nat} {m n : Int} (h : Sm k m) (g : Sm k n) : Sm (k + 1) (m + n) := by
  unfold Sm at *
  rw [Nat.pow_succ]
  omega
theorem Sm.sub {k : Nat} {m n : Int} (h : Sm k m) (g : Sm k n) : Sm (k + 1) (m - n) := by
  unfold Sm at *
  rw [Nat.pow_succ]
  omega
theorem Sm.neg {k : Nat} {m : Int} (h : Sm k m) : Sm k (-m) := by
  unfold Sm at *; omega
theorem Sm.le {k : Nat} {m n : Int} (h : Sm k m) (g : n.natAbs ≤ m.natAbs) : Sm k n := Nat.lt_of_le_of_lt g h
theorem log2_sm {k : Nat} {n : Int} (h : Sm k n) : n.natAbs.log2 < k + 1 := by
  by_cases hn : n.natAbs = 0
  · rw [hn]; simp
  · have := (Nat.log2_lt hn).mpr h
    omega
theorem mulD_sm {k l : Nat} {i j : Int} (h : Sm k i) (g : Sm l j) (hk : k + l < 900000) : mulD (.int i) (.int j) = .ok (.int (i * j)) := by
  unfold mulD
  have a := log2_sm h; have b := log2_sm g
  simp only
  rw [if_pos (by omega)]
theorem divD_sm {k : Nat} {i j : Int} (h : j ≠ 0) (g : Sm k j) (hk : k < 8999) : divD (.int i) (.int j) = .ok (.int (i.fdiv j)) := by
  unfold divD
  have b := log2_sm g
  simp only
  rw [if_pos ⟨h, by omega⟩]
def fr (n d : Int) : D := .tuple [.int (n / (Int.gcd n d : Nat)), .int (d / (Int.gcd n d : Nat))]
theorem cop_dvd {a b c d : Int} (h1 : Int.gcd a b = 1) (h : a * d = c * b) : b ∣ d := by
  have h2 : b.natAbs ∣ a.natAbs * d.natAbs := ⟨c.natAbs, by rw [← Int.natAbs_mul, h, Int.natAbs_mul]; exact Nat.mul_comm ..⟩
  have h3 : Nat.Coprime b.natAbs a.natAbs := by rw [Nat.coprime_comm]; exact h1
  exact Int.natAbs_dvd_natAbs.mp (h3.dvd_of_dvd_mul_left h2)
theorem cop_eq {a b c d : Int} (hb : 0 < b) (hd : 0 < d) (h1 : Int.gcd a b = 1) (h2 : Int.gcd c d = 1) (h : a * d = c * b) : a = c ∧ b = d := by
  have e1 := cop_dvd h1 h
  have e2 := cop_dvd h2 h.symm
  have e : b = d := Int.dvd_antisymm (by omega) (by omega) e1 e2
  subst e
  exact ⟨Int.eq_of_mul_eq_mul_right (by omega) h, rfl⟩
/-- the parts of a fraction -/
theorem fr_parts (n : Int) {d : Int} (hd : 0 < d) : ∃ g a b : Int, 0 < g ∧ 0 < b ∧ n = g * a ∧ d = g * b ∧ Int.gcd a b = 1 ∧ fr n d = .tuple [.int a, .int b] ∧ a.natAbs ≤ n.natAbs ∧ b.natAbs ≤ d.natAbs := by
  obtain ⟨g, x, y, h1, h2, h3, h4, h5, h6, h7⟩ := low_parts (a := n) (b := d) hd
  have hy : 0 < y := Int.pos_of_mul_pos_right (a := g) (by omega) h1
  have up : ∀ z : Int, z.natAbs ≤ (g * z).natAbs := fun z => by
    rw [Int.natAbs_mul]
    exact Nat.le_mul_of_pos_left _ (by omega)
  exact ⟨g, x, y, h1, hy, h2, h3, h6, by unfold fr; rw [h4, h5], by rw [h2]; exact up x, by rw [h3]; exact up y⟩
theorem fr_eq {n d m e : Int} (hd : 0 < d) (he : 0 < e) (h : n * e = m * d) : fr n d = fr m e := by
  obtain ⟨g, a, b, g0, b0, rfl, rfl, c1, f1, _⟩ := fr_parts n hd
  obtain ⟨k, x, y, k0, y0, rfl, rfl, c2, f2, _⟩ := fr_parts m he
  rw [f1, f2]
  have e1 : (g * k) * (a * y) = (g * k) * (x * b) := by grind
  have e1 := Int.eq_of_mul_eq_mul_left (Int.ne_of_gt (Int.mul_pos g0 k0)) e1
  obtain ⟨rfl, rfl⟩ := cop_eq b0 y0 c1 c2 e1
  rfl
theorem fr_inj {n d m e : Int} (hd : 0 < d) (he : 0 < e) (h : fr n d = fr m e) : n * e = m * d := by
  obtain ⟨g, a, b, g0, b0, rfl, rfl, c1, f1, _⟩ := fr_parts n hd
  obtain ⟨k, x, y, k0, y0, rfl, rfl, c2, f2, _⟩ := fr_parts m he
  rw [f1, f2] at h
  injection h with h
  injection h with h1 h
  injection h with h2 h
  injection h1 with h1
  injection h2 with h2
  subst h1 h2
  grind
theorem fr_low {a b : Int} (hb : 0 < b) (h : Int.gcd a b = 1) : fr a b = .tuple [.int a, .int b] := by
  unfold fr; rw [h]; simp
def sg (i : Int) : Int := if 0 < i then 1 else if i < 0 then -1 else 0
theorem sg_mul {g i : Int} (hg : 0 < g) : sg (g * i) = sg i := by
  have h1 : 0 < g * i ↔ 0 < i := by
    constructor
    · intro h; exact Int.pos_of_mul_pos_right h hg
    · intro h; exact Int.mul_pos hg h
  have h2 : g * i < 0 ↔ i < 0 := by
    constructor
    · intro h
      rcases Int.lt_or_le i 0 with q | q
      · exact q
      · have := Int.mul_nonneg (Int.le_of_lt hg) q; omega
    · intro h; exact Int.mul_neg_of_pos_of_neg hg h
  unfold sg
  simp only [h1, h2]
end DV.Pl
set_option Elab.async false
set_option linter.all false
set_option maxRecDepth 100000
set_option maxHeartbeats 4000000
/-! Comprehensions over typed lists; ends of lists; slices. -/
namespace DV.Pl
open PySem PySem.Spec PyProof.Rows L2 DV

theorem comp_typ {t : Type} {g : D → En → Out En} {c : En → Out (Bool × En)} {f : En → Out (D × En)} {vs : List Nat} {e : En} (B : t → D) {h : t → Option D} (l : List t) (H : ∀ d ∈ l, ∃ e1, g (B d) e = .ok e1 ∧ (match h d with
    | some y => ∃ e2 e3, c e1 = .ok (true, e2) ∧ f e2 = .ok (y, e3) ∧ e3.wipe vs = e
    | none => ∃ e2, c e1 = .ok (false, e2) ∧ e2.wipe vs = e)) (acc : List D) (hl : acc.length + l.length ≤ 16777216) : compL g c f vs (l.map B) e acc = .ok (acc ++ l.filterMap h, e) := by
  induction l generalizing acc with
  | nil => simp
  | cons d l ih =>
    obtain ⟨e1, h1, h2⟩ := H d (by simp)
    rw [List.map_cons, comp_cons, h1]
    simp only [Out.bind_ok, cmA]
    simp only [List.length_cons] at hl
    cases hd : h d with
    | some y =>
      rw [hd] at h2
      obtain ⟨e2, e3, a, b, w⟩ := h2
      rw [a]
      simp only [Out.bind_ok, cmB, if_pos rfl]
      rw [b]
      simp only [Out.bind_ok, cmF]
      have hlt : acc.length < 16777216 := by omega
      have hl2 : (acc ++ [y]).length + l.length ≤ 16777216 := by rw [List.length_append]; simp only [List.length_cons, List.length_nil]; omega
      rw [if_pos hlt, w, ih (fun x hx => H x (by simp [hx])) (acc ++ [y]) hl2]
      simp [hd]
    | none =>
      rw [hd] at h2
      obtain ⟨e2, a, w⟩ := h2
      rw [a]
      simp only [Out.bind_ok, cmB]
      rw [if_neg (by decide), w, ih (fun x hx => H x (by simp [hx])) acc (by omega)]
      simp [hd]
/-- [f for x in l] with typed items -/
theorem comp_t {t : Type} {i : Nat} {f : E} {e : En} (B : t → D) (h : t → D) (l : List t) (hs : e.sl[i]? = some .no) (hl : l.length ≤ 16777216) (hf : ∀ d ∈ l, (ev f).v (e.put i (.val (B d))) = .ok (h d, e.put i (.val (B d)))) :
    compL (asg (.name i)) (ev .no).c (ev f).v [i] (l.map B) e [] = .ok (l.map h, e) := by
  rw [comp_typ B (h := fun d => some (h d)) l (fun d hd => ?_) [] (by simpa using hl)]
  · simp [List.filterMap_eq_map]
  · refine ⟨e.put i (.val (B d)), ?_, e.put i (.val (B d)), e.put i (.val (B d)), rfl, hf d hd, put_wipe hs⟩
    rw [asg_name, if_pos (free_no hs)]
theorem comp_tc {t : Type} {i : Nat} {f c : E} {e : En} (B : t → D) (p : t → Bool) (h : t → D) (l : List t) (hs : e.sl[i]? = some .no) (hl : l.length ≤ 16777216) (hc : ∀ d ∈ l, (ev c).c (e.put i (.val (B d))) = .ok (p d, e.put i (.val (B d)))) (hf : ∀ d ∈ l, p d = true → (ev f).v (e.put i (.val (B d))) = .ok (h d, e.put i (.val (B d)))) :
    compL (asg (.name i)) (ev c).c (ev f).v [i] (l.map B) e [] = .ok ((l.filter p).map h, e) := by
  rw [comp_typ B (h := fun d => if p d = true then some (h d) else none) l (fun d hd => ?_) [] (by simpa using hl)]
  · congr 2
    clear hl hc hf
    induction l with
    | nil => rfl
    | cons a l ih =>
      rw [List.nil_append] at ih
      by_cases hp : p a = true <;> simp [hp, ih]
  · refine ⟨e.put i (.val (B d)), ?_, ?_⟩
    · rw [asg_name, if_pos (free_no hs)]
    · by_cases hp : p d = true
      · rw [if_pos hp]
        exact ⟨_, _, by rw [hc d hd, hp], hf d hd hp, put_wipe hs⟩
      · rw [if_neg hp]
        refine ⟨_, ?_, put_wipe (x := .val (B d)) hs⟩
        rw [hc d hd]
        simp only [Bool.not_eq_true] at hp
        rw [hp]
theorem asg_two {i j : Nat} {e : En} (x y : D) (hij : i ≠ j) (hi : e.sl[i]? = some .no) (hj : e.sl[j]? = some .no) : asg (.cons (.name i) (.cons (.name j) .nil)) (.tuple [x, y]) e = .ok ((e.put i (.val x)).put j (.val y)) := by
  have fj : (e.put i (.val x)).free j = true := by
    unfold En.free
    show (match (e.sl.set i (.val x))[j]? with | some (.bag _) => false | some _ => true | none => false) = true
    rw [List.getElem?_set_ne hij, hj]
  rw [asg_cons, asg_name, if_pos (free_no hi), Out.bind_ok, tg2_cons, asg_name, if_pos fj, Out.bind_ok, tg2_nil]
/-- [f for x, y in l if c] -/
theorem comp_2c {t : Type} {i j : Nat} {f c : E} {e : En} (A B : t → D) (p : t → Bool) (h : t → D) (l : List t) (hij : i ≠ j) (hi : e.sl[i]? = some .no) (hj : e.sl[j]? = some .no) (hl : l.length ≤ 16777216)
    (hc : ∀ d ∈ l, (ev c).c ((e.put i (.val (A d))).put j (.val (B d))) = .ok (p d, (e.put i (.val (A d))).put j (.val (B d))))
    (hf : ∀ d ∈ l, p d = true → (ev f).v ((e.put i (.val (A d))).put j (.val (B d))) = .ok (h d, (e.put i (.val (A d))).put j (.val (B d)))) :
    compL (asg (.cons (.name i) (.cons (.name j) .nil))) (ev c).c (ev f).v [i, j] (l.map fun x => .tuple [A x, B x]) e [] = .ok ((l.filter p).map h, e) := by
  rw [comp_typ (fun x => PyData.tuple [A x, B x]) (h := fun d => if p d = true then some (h d) else none) l (fun d hd => ?_) [] (by simpa using hl)]
  · congr 2
    clear hl hc hf
    induction l with
    | nil => rfl
    | cons a l ih =>
      rw [List.nil_append] at ih
      by_cases hp : p a = true <;> simp [hp, ih]
  · refine ⟨_, asg_two (A d) (B d) hij hi hj, ?_⟩
    by_cases hp : p d = true
    · rw [if_pos hp]
      exact ⟨_, _, by rw [hc d hd, hp], hf d hd hp, put2_wipe hij hi hj⟩
    · rw [if_neg hp]
      refine ⟨_, ?_, put2_wipe (x := .val (A d)) (y := .val (B d)) hij hi hj⟩
      rw [hc d hd]
      simp only [Bool.not_eq_true] at hp
      rw [hp]
theorem addL (x y : List D) (h : x.length + y.length ≤ 16777216) : addD (.list x) (.list y) = .ok (.list (x ++ y)) := by
  unfold addD; simp only; rw [if_pos h]
/-! ends -/
theorem atI_neg {t : Type} (xs : List t) (v : t) : atI (xs ++ [v]) (-1) = some v := L2.atI_last xs v
theorem ix_last {l : List D} {x : D} (h : l.getLast? = some x) : ixD (.list l) (.int (-1)) = .ok x := by
  obtain ⟨ys, rfl⟩ := List.getLast?_eq_some_iff.mp h
  unfold ixD
  simp only
  rw [atI_neg]
theorem cut_to {t : Type} (l : List t) (n : Nat) : cutL l none (some (n : Int)) = l.take n := by
  unfold cutL
  rw [HT.sIx_none, HT.sIx_nat]
  simp only [List.drop_zero, Nat.sub_zero]
  rcases Nat.le_total n l.length with h | h
  · rw [Nat.min_eq_left h]
  · rw [Nat.min_eq_right h, List.take_of_length_le (Nat.le_refl _), List.take_of_length_le h]
theorem cut_from {t : Type} (l : List t) (n : Nat) : cutL l (some (n : Int)) none = l.drop n := by
  unfold cutL
  rw [HT.sIx_none, HT.sIx_nat]
  rcases Nat.le_total n l.length with h | h
  · rw [Nat.min_eq_left h, List.take_of_length_le (by simp)]
  · rw [Nat.min_eq_right h, List.drop_eq_nil_of_le (Nat.le_refl _), List.drop_eq_nil_of_le h]; simp
end DV.Pl
set_option Elab.async false
set_option linter.all false
set_option maxRecDepth 1000000
set_option maxHeartbeats 4000000
namespace K02
open PySem PySem.Spec PyProof.Rows L2 DV
def top (i : Nat) : Stmt := PySem.Challenge.pw_anystream_k02_whole_boats_at_told_flows.main.body.getD i (.Pass ⟨0, 0, 0, 0⟩)
def dd (x : Str) (i : Nat) : He.DefD := ⟨(x, none), x, x, C8.fnArgs (top i), C8.fnBody (top i), C8.fnScope (top i), [], []⟩
def g_law_error : Out DV.D → Out DV.D := gErr errTxts
/-- _law_cell: names _law_script _law_k; def 48 -/
def F_law_cell : Fn := ⟨["_law_script", "_law_k"], 2, (.seq (.ite (.cmp .lt (.var 1) (.bi .len (.cons (.var 0) .nil))) (.seq (.ret (.ix (.var 0) (.var 1))) .skip) .skip) (.seq (.ite (.cmp .eq (.bi .len (.cons (.var 0) .nil)) (.cst (.int (0)))) (.seq (.ret (.bin .add (.bin .mul (.cst (.int (7919))) (.var 1)) (.cst (.int (101))))) .skip) .skip) (.seq (.ret (.bin .add (.bin .mod (.ix (.var 0) (.bin .mod (.var 1) (.bi .len (.cons (.var 0) .nil)))) (.cst (.int (1000003)))) (.bin .mul (.cst (.int (7919))) (.var 1)))) .skip)))⟩
theorem b_law_cell : bodyB false ["_law_script", "_law_k"] (C8.fnScope (top 48)) (C8.fnBody (top 48)) F_law_cell = true := by decide +kernel
/-- _law_draws: names _law_script _law_k _law_many _law_base _law_primes _law_cell_here _law_rest _law_row _law_j _law_mash; def 49 -/
def B_law_draws_1 : S := (.seq (.set (.name 9) (.bin .mul (.bin .mod (.var 5) (.ix (.var 4) (.bin .mod (.var 8) (.cst (.int (8)))))) (.bin .add (.cst (.int (48271))) (.bin .mul (.bin .mul (.cst (.int (2))) (.var 8)) (.var 8))))) (.seq (.set (.name 9) (.bin .add (.bin .add (.var 9) (.bin .mul (.bin .mul (.cst (.int (7919))) (.bin .add (.var 8) (.cst (.int (1))))) (.bin .add (.var 8) (.cst (.int (1)))))) (.bin .mul (.cst (.int (104729))) (.var 1)))) (.seq (.set (.name 9) (.bin .mod (.var 9) (.ix (.var 4) (.bin .mod (.bin .add (.bin .mul (.cst (.int (3))) (.var 8)) (.var 1)) (.cst (.int (8))))))) (.seq (.set (.name 9) (.bin .mod (.bin .mul (.bin .mul (.var 9) (.var 9)) (.var 9)) (.ix (.var 4) (.bin .mod (.bin .add (.var 8) (.cst (.int (5)))) (.cst (.int (8))))))) (.seq (.ite (.cmp .gt (.var 6) (.cst (.int (0)))) (.seq (.set (.name 9) (.var 6)) .skip) .skip) (.seq (.app 7 (.bin .mod (.var 9) (.var 3))) (.seq (.set (.name 6) (.bin .div (.var 6) (.var 3))) .skip)))))))
def F_law_draws : Fn := ⟨["_law_script", "_law_k", "_law_many", "_law_base"], 10, (.seq (.set (.name 4) (.tup (.cons (.cst (.int (2147483647))) (.cons (.cst (.int (2147483629))) (.cons (.cst (.int (2147483587))) (.cons (.cst (.int (2147483579))) (.cons (.cst (.int (2147483563))) (.cons (.cst (.int (2147483549))) (.cons (.cst (.int (2147483543))) (.cons (.cst (.int (2147483497))) .nil)))))))))) (.seq (.set (.name 5) (.call "_law_cell" F_law_cell.run (.cons (.var 0) (.cons (.var 1) .nil)))) (.seq (.set (.name 6) (.cst (.int (0)))) (.seq (.ite (.cmp .ge (.var 5) (.bin .pow (.cst (.int (10))) (.cst (.int (18))))) (.seq (.set (.name 6) (.var 5)) .skip) .skip) (.seq (.own .own 7 (.lst .nil)) (.seq (.each (.name 8) (.rng1 (.var 2)) (B_law_draws_1)) (.seq (.retOwn 7) .skip)))))))⟩
theorem b_law_draws : bodyB false ["_law_script", "_law_k", "_law_many", "_law_base", "_law_primes", "_law_cell_here", "_law_rest", "_law_row", "_law_j", "_law_mash"] (C8.fnScope (top 49)) (C8.fnBody (top 49)) F_law_draws = true := by decide +kernel
/-- _law_bag: names _law_script _law_k; def 50 -/
def F_law_bag : Fn := ⟨["_law_script", "_law_k"], 2, (.seq (.retF (.callF "_law_draws" F_law_draws.runF (.cons (.var 0) (.cons (.var 1) (.cons (.cst (.int (150))) (.cons (.cst (.int (27720))) .nil)))))) .skip)⟩
theorem b_law_bag : bodyB false ["_law_script", "_law_k"] (C8.fnScope (top 50)) (C8.fnBody (top 50)) F_law_bag = true := by decide +kernel
/-- _law_take: names _law_bag_here _law_many _law_draw; def 51 -/
def F_law_take : Fn := ⟨["_law_bag_here", "_law_many"], 3, (.seq (.set (.name 2) (.ite (.ownNil 0 true) (.pop0 0) (.cst (.int (0))))) (.seq (.ret (.bin .mod (.bi .int (.cons (.var 2) .nil)) (.var 1))) .skip))⟩
theorem b_law_take : bodyB false ["_law_bag_here", "_law_many", "_law_draw"] (C8.fnScope (top 51)) (C8.fnBody (top 51)) F_law_take = true := by decide +kernel
/-- _law_legs: names _law_bag_here _law_many _law_others _law_start _law_turn _law_found _law_spot _law_way; def 54 -/
def B_law_legs_1 : S := (.seq (.set (.name 7) (.callB "_law_take" F_law_take.runB 0 (.cons (.cst (.int (6))) .nil))) (.seq (.ite (.and (.cmp .eq (.var 7) (.cst (.int (0)))) (.cmp .gt (.var 2) (.cst (.int (0))))) (.seq (.set (.name 5) (.bin .add (.var 5) (.tup (.cons (.tup (.cons (.cst (.str "wait")) (.cons (.bin .add (.cst (.int (1))) (.callB "_law_take" F_law_take.runB 0 (.cons (.var 2) .nil))) .nil))) .nil)))) .skip) (.seq (.ite (.and (.cmp .eq (.var 7) (.cst (.int (1)))) (.cmp .gt (.var 6) (.cst (.int (0))))) (.seq (.set (.name 6) (.callB "_law_take" F_law_take.runB 0 (.cons (.var 6) .nil))) (.seq (.set (.name 5) (.bin .add (.var 5) (.tup (.cons (.tup (.cons (.cst (.str "drift")) (.cons (.var 6) .nil))) .nil)))) .skip)) (.seq (.set (.name 6) (.bin .mod (.bin .add (.bin .add (.var 6) (.cst (.int (1)))) (.callB "_law_take" F_law_take.runB 0 (.cons (.cst (.int (9))) .nil))) (.cst (.int (10))))) (.seq (.set (.name 5) (.bin .add (.var 5) (.tup (.cons (.tup (.cons (.cst (.str "to")) (.cons (.var 6) .nil))) .nil)))) .skip))) .skip)) .skip))
def F_law_legs : Fn := ⟨["_law_bag_here", "_law_many", "_law_others", "_law_start"], 8, (.seq (.par2 .val .val 5 6 (.tup .nil) (.var 3)) (.seq (.each (.name 4) (.rng1 (.var 1)) (B_law_legs_1)) (.seq (.ret (.var 5)) .skip)))⟩
theorem b_law_legs : bodyB false ["_law_bag_here", "_law_many", "_law_others", "_law_start", "_law_turn", "_law_found", "_law_spot", "_law_way"] (C8.fnScope (top 54)) (C8.fnBody (top 54)) F_law_legs = true := by decide +kernel
/-- _law_plan: names _law_bag_here _law_peak _law_first_so _law_mine _law_theirs _law_one _law_other; def 55 -/
def F_law_plan : Fn := ⟨["_law_bag_here", "_law_peak"], 7, (.seq (.par2 .val .val 3 4 (.bin .add (.cst (.int (1))) (.callB "_law_take" F_law_take.runB 0 (.cons (.var 1) .nil))) (.bin .add (.cst (.int (1))) (.callB "_law_take" F_law_take.runB 0 (.cons (.var 1) .nil)))) (.seq (.par2 .val .val 5 6 (.callB "_law_take" F_law_take.runB 0 (.cons (.cst (.int (10))) .nil)) (.callB "_law_take" F_law_take.runB 0 (.cons (.cst (.int (10))) .nil))) (.seq (.set (.name 2) (.tup (.cons (.bin .add (.cst (.int (1))) (.callB "_law_take" F_law_take.runB 0 (.cons (.cst (.int (6))) .nil))) (.cons (.var 5) (.cons (.callB "_law_legs" F_law_legs.runB 0 (.cons (.var 3) (.cons (.var 4) (.cons (.var 5) .nil)))) .nil))))) (.seq (.ret (.tup (.cons (.var 2) (.cons (.tup (.cons (.bin .add (.cst (.int (1))) (.callB "_law_take" F_law_take.runB 0 (.cons (.cst (.int (6))) .nil))) (.cons (.var 6) (.cons (.callB "_law_legs" F_law_legs.runB 0 (.cons (.var 4) (.cons (.var 3) (.cons (.var 6) .nil)))) .nil)))) .nil)))) .skip))))⟩
theorem b_law_plan : bodyB false ["_law_bag_here", "_law_peak", "_law_first_so", "_law_mine", "_law_theirs", "_law_one", "_law_other"] (C8.fnScope (top 55)) (C8.fnBody (top 55)) F_law_plan = true := by decide +kernel
/-- is_plain: names value; def 13 -/
def F_is_plain : Fn := ⟨["value"], 1, (.seq (.ret (.and (.isi (.var 0) "int") (.not (.isi (.var 0) "bool")))) .skip)⟩
theorem b_is_plain : bodyB false ["value"] (C8.fnScope (top 13)) (C8.fnBody (top 13)) F_is_plain = true := by decide +kernel
/-- is_whole: names value low high; def 14 -/
def F_is_whole : Fn := ⟨["value", "low", "high"], 3, (.seq (.ret (.and (.call "is_plain" F_is_plain.run (.cons (.var 0) .nil)) (.chain .le .le (.var 1) (.var 0) (.var 2)))) .skip)⟩
theorem b_is_whole : bodyB false ["value", "low", "high"] (C8.fnScope (top 14)) (C8.fnBody (top 14)) F_is_whole = true := by decide +kernel
/-- is_leg: names value; def 15 -/
def F_is_leg : Fn := ⟨["value"], 1, (.seq (.ite (.or (.not (.isi (.var 0) "tuple")) (.or (.cmp .ne (.bi .len (.cons (.var 0) .nil)) (.cst (.int (2)))) (.not (.isi (.ix (.var 0) (.cst (.int (0)))) "str")))) (.seq (.ret (.cst (.bool false))) .skip) .skip) (.seq (.ite (.cmp .isin (.ix (.var 0) (.cst (.int (0)))) (.tup (.cons (.cst (.str "to")) (.cons (.cst (.str "drift")) .nil)))) (.seq (.ret (.call "is_whole" F_is_whole.run (.cons (.ix (.var 0) (.cst (.int (1)))) (.cons (.cst (.int (0))) (.cons (.glob "TOP_PLACE" (.int (9))) .nil))))) .skip) .skip) (.seq (.ret (.and (.cmp .eq (.ix (.var 0) (.cst (.int (0)))) (.cst (.str "wait"))) (.call "is_whole" F_is_whole.run (.cons (.ix (.var 0) (.cst (.int (1)))) (.cons (.cst (.int (1))) (.cons (.cst (.int (4))) .nil)))))) .skip)))⟩
theorem b_is_leg : bodyB false ["value"] (C8.fnScope (top 15)) (C8.fnBody (top 15)) F_is_leg = true := by decide +kernel
/-- is_boat: names value speed place legs word number leg; def 16 -/
def B_is_boat_1 : S := (.seq (.ite (.cmp .ne (.var 4) (.cst (.str "wait"))) (.seq (.ite (.or (.cmp .eq (.var 5) (.var 2)) (.and (.cmp .eq (.var 4) (.cst (.str "drift"))) (.cmp .gt (.var 5) (.var 2)))) (.seq (.ret (.cst (.bool false))) .skip) .skip) (.seq (.set (.name 2) (.var 5)) .skip)) .skip) .skip)
def F_is_boat : Fn := ⟨["value"], 7, (.seq (.ite (.or (.not (.isi (.var 0) "tuple")) (.or (.cmp .ne (.bi .len (.cons (.var 0) .nil)) (.cst (.int (3)))) (.not (.call "is_whole" F_is_whole.run (.cons (.ix (.var 0) (.cst (.int (0)))) (.cons (.cst (.int (1))) (.cons (.cst (.int (6))) .nil))))))) (.seq (.ret (.cst (.bool false))) .skip) .skip) (.seq (.set (.cons (.name 1) (.cons (.name 2) (.cons (.name 3) .nil))) (.var 0)) (.seq (.ite (.not (.call "is_whole" F_is_whole.run (.cons (.var 2) (.cons (.cst (.int (0))) (.cons (.glob "TOP_PLACE" (.int (9))) .nil))))) (.seq (.ret (.cst (.bool false))) .skip) .skip) (.seq (.ite (.or (.not (.isi (.var 3) "tuple")) (.or (.cmp .gt (.bi .len (.cons (.var 3) .nil)) (.cst (.int (4)))) (.not (.bi .all (.cons (.comp (.call "is_leg" F_is_leg.run (.cons (.var 6) .nil)) (.name 6) (.var 3) .no [6]) .nil))))) (.seq (.ret (.cst (.bool false))) .skip) .skip) (.seq (.each (.cons (.name 4) (.cons (.name 5) .nil)) (.var 3) (B_is_boat_1)) (.seq (.ret (.cst (.bool true))) .skip))))))⟩
theorem b_is_boat : bodyB false ["value", "speed", "place", "legs", "word", "number", "leg"] (C8.fnScope (top 16)) (C8.fnBody (top 16)) F_is_boat = true := by decide +kernel
/-- is_plan: names value boat other word number; def 17 -/
def B_is_plan_1 : S := (.seq (.ite (.bi .any (.cons (.comp (.and (.cmp .eq (.var 3) (.cst (.str "wait"))) (.cmp .gt (.var 4) (.bi .len (.cons (.ix (.var 2) (.cst (.int (2)))) .nil)))) (.cons (.name 3) (.cons (.name 4) .nil)) (.ix (.var 1) (.cst (.int (2)))) .no [3, 4]) .nil)) (.seq (.ret (.cst (.bool false))) .skip) .skip) .skip)
def F_is_plan : Fn := ⟨["value"], 5, (.seq (.ite (.or (.not (.isi (.var 0) "tuple")) (.or (.cmp .ne (.bi .len (.cons (.var 0) .nil)) (.cst (.int (2)))) (.not (.bi .all (.cons (.comp (.call "is_boat" F_is_boat.run (.cons (.var 1) .nil)) (.name 1) (.var 0) .no [1]) .nil))))) (.seq (.ret (.cst (.bool false))) .skip) .skip) (.seq (.each (.cons (.name 1) (.cons (.name 2) .nil)) (.tup (.cons (.var 0) (.cons (.rev (.var 0)) .nil))) (B_is_plan_1)) (.seq (.ret (.cst (.bool true))) .skip)))⟩
theorem b_is_plan : bodyB false ["value", "boat", "other", "word", "number"] (C8.fnScope (top 17)) (C8.fnBody (top 17)) F_is_plan = true := by decide +kernel
/-- need_plan: names plan; def 23 -/
def F_need_plan : Fn := ⟨["plan"], 1, (.seq (.ite (.not (.call "is_plan" F_is_plan.run (.cons (.var 0) .nil))) (.seq (.raise "InvalidPlan") .skip) .skip) .skip)⟩
theorem b_need_plan : bodyB false ["plan"] (C8.fnScope (top 23)) (C8.fnBody (top 23)) F_need_plan = true := by decide +kernel
/-- divisor_of: names one other; def 18 -/
def B_divisor_of_1 : S := (.seq (.par2 .val .val 0 1 (.var 1) (.bin .mod (.var 0) (.var 1))) .skip)
def F_divisor_of : Fn := ⟨["one", "other"], 2, (.seq (.par2 .val .val 0 1 (.bi .abs (.cons (.var 0) .nil)) (.bi .abs (.cons (.var 1) .nil))) (.seq (.loop 1000000 (.cmp .ne (.var 1) (.cst (.int (0)))) (B_divisor_of_1)) (.seq (.ret (.var 0)) .skip)))⟩
theorem b_divisor_of : bodyB false ["one", "other"] (C8.fnScope (top 18)) (C8.fnBody (top 18)) F_divisor_of = true := by decide +kernel
/-- is_fraction: names value; def 20 -/
def F_is_fraction : Fn := ⟨["value"], 1, (.seq (.ite (.or (.not (.isi (.var 0) "tuple")) (.or (.cmp .ne (.bi .len (.cons (.var 0) .nil)) (.cst (.int (2)))) (.or (.not (.call "is_plain" F_is_plain.run (.cons (.ix (.var 0) (.cst (.int (0)))) .nil))) (.not (.call "is_plain" F_is_plain.run (.cons (.ix (.var 0) (.cst (.int (1)))) .nil)))))) (.seq (.ret (.cst (.bool false))) .skip) .skip) (.seq (.ret (.and (.cmp .gt (.ix (.var 0) (.cst (.int (1)))) (.cst (.int (0)))) (.cmp .eq (.call "divisor_of" F_divisor_of.run (.cons (.ix (.var 0) (.cst (.int (0)))) (.cons (.ix (.var 0) (.cst (.int (1)))) .nil))) (.cst (.int (1)))))) .skip))⟩
theorem b_is_fraction : bodyB false ["value"] (C8.fnScope (top 20)) (C8.fnBody (top 20)) F_is_fraction = true := by decide +kernel
/-- is_below: names value speed; def 22 -/
def F_is_below : Fn := ⟨["value", "speed"], 2, (.seq (.ret (.and (.call "is_fraction" F_is_fraction.run (.cons (.var 0) .nil)) (.chain .lt .lt (.cst (.int (0))) (.ix (.var 0) (.cst (.int (0)))) (.bin .mul (.var 1) (.ix (.var 0) (.cst (.int (1)))))))) .skip)⟩
theorem b_is_below : bodyB false ["value", "speed"] (C8.fnScope (top 22)) (C8.fnBody (top 22)) F_is_below = true := by decide +kernel
/-- slowest: names plan; def 21 -/
def F_slowest : Fn := ⟨["plan"], 1, (.seq (.ret (.bi .min (.cons (.ix (.ix (.var 0) (.cst (.int (0)))) (.cst (.int (0)))) (.cons (.ix (.ix (.var 0) (.cst (.int (1)))) (.cst (.int (0)))) .nil)))) .skip)⟩
theorem b_slowest : bodyB false ["plan"] (C8.fnScope (top 21)) (C8.fnBody (top 21)) F_slowest = true := by decide +kernel
/-- need_flow: names plan flow; def 24 -/
def F_need_flow : Fn := ⟨["plan", "flow"], 2, (.seq (.ite (.not (.call "is_below" F_is_below.run (.cons (.var 1) (.cons (.call "slowest" F_slowest.run (.cons (.var 0) .nil)) .nil)))) (.seq (.raise "InvalidFlow") .skip) .skip) .skip)⟩
theorem b_need_flow : bodyB false ["plan", "flow"] (C8.fnScope (top 24)) (C8.fnBody (top 24)) F_need_flow = true := by decide +kernel
/-- need_both: names plan flow; def 25 -/
def F_need_both : Fn := ⟨["plan", "flow"], 2, (.seq (.ex (.call "need_plan" F_need_plan.run (.cons (.var 0) .nil))) (.seq (.ex (.call "need_flow" F_need_flow.run (.cons (.var 0) (.cons (.var 1) .nil)))) .skip))⟩
theorem b_need_both : bodyB false ["plan", "flow"] (C8.fnScope (top 25)) (C8.fnBody (top 25)) F_need_both = true := by decide +kernel
/-- place_ahead: names boat at places word number; def 27 -/
def F_place_ahead : Fn := ⟨["boat", "at"], 5, (.seq (.set (.name 2) (.bin .add (.lst (.cons (.ix (.var 0) (.cst (.int (1)))) .nil)) (.comp (.var 4) (.cons (.name 3) (.cons (.name 4) .nil)) (.sl (.ix (.var 0) (.cst (.int (2)))) .no (.var 1)) (.cmp .ne (.var 3) (.cst (.str "wait"))) [3, 4]))) (.seq (.ret (.ix (.var 2) (.neg (.cst (.int (1)))))) .skip))⟩
theorem b_place_ahead : bodyB false ["boat", "at", "places", "word", "number"] (C8.fnScope (top 27)) (C8.fnBody (top 27)) F_place_ahead = true := by decide +kernel
/-- lowest: names top below divisor; def 19 -/
def F_lowest : Fn := ⟨["top", "below"], 3, (.seq (.set (.name 2) (.call "divisor_of" F_divisor_of.run (.cons (.var 0) (.cons (.var 1) .nil)))) (.seq (.ret (.tup (.cons (.bin .div (.var 0) (.var 2)) (.cons (.bin .div (.var 1) (.var 2)) .nil)))) .skip))⟩
theorem b_lowest : bodyB false ["top", "below", "divisor"] (C8.fnScope (top 19)) (C8.fnBody (top 19)) F_lowest = true := by decide +kernel
/-- minus: names one other; def 31 -/
def F_minus : Fn := ⟨["one", "other"], 2, (.seq (.ret (.call "lowest" F_lowest.run (.cons (.bin .sub (.bin .mul (.ix (.var 0) (.cst (.int (0)))) (.ix (.var 1) (.cst (.int (1))))) (.bin .mul (.ix (.var 1) (.cst (.int (0)))) (.ix (.var 0) (.cst (.int (1)))))) (.cons (.bin .mul (.ix (.var 0) (.cst (.int (1)))) (.ix (.var 1) (.cst (.int (1))))) .nil)))) .skip)⟩
theorem b_minus : bodyB false ["one", "other"] (C8.fnScope (top 31)) (C8.fnBody (top 31)) F_minus = true := by decide +kernel
/-- times: names one other; def 30 -/
def F_times : Fn := ⟨["one", "other"], 2, (.seq (.ret (.call "lowest" F_lowest.run (.cons (.bin .mul (.ix (.var 0) (.cst (.int (0)))) (.ix (.var 1) (.cst (.int (0))))) (.cons (.bin .mul (.ix (.var 0) (.cst (.int (1)))) (.ix (.var 1) (.cst (.int (1))))) .nil)))) .skip)⟩
theorem b_times : bodyB false ["one", "other"] (C8.fnScope (top 30)) (C8.fnBody (top 30)) F_times = true := by decide +kernel
/-- plus: names one other; def 29 -/
def F_plus : Fn := ⟨["one", "other"], 2, (.seq (.ret (.call "lowest" F_lowest.run (.cons (.bin .add (.bin .mul (.ix (.var 0) (.cst (.int (0)))) (.ix (.var 1) (.cst (.int (1))))) (.bin .mul (.ix (.var 1) (.cst (.int (0)))) (.ix (.var 0) (.cst (.int (1)))))) (.cons (.bin .mul (.ix (.var 0) (.cst (.int (1)))) (.ix (.var 1) (.cst (.int (1))))) .nil)))) .skip)⟩
theorem b_plus : bodyB false ["one", "other"] (C8.fnScope (top 29)) (C8.fnBody (top 29)) F_plus = true := by decide +kernel
/-- pace_of: names boat leg place flow speed word number; def 33 -/
def F_pace_of : Fn := ⟨["boat", "leg", "place", "flow"], 7, (.seq (.set (.cons (.name 5) (.cons (.name 6) .nil)) (.var 1)) (.seq (.ite (.cmp .eq (.var 5) (.cst (.str "wait"))) (.seq (.ret (.tup (.cons (.cst (.int (0))) (.cons (.cst (.int (1))) .nil)))) .skip) .skip) (.seq (.ite (.cmp .eq (.var 5) (.cst (.str "drift"))) (.seq (.ret (.tup (.cons (.neg (.ix (.var 3) (.cst (.int (0))))) (.cons (.ix (.var 3) (.cst (.int (1)))) .nil)))) .skip) .skip) (.seq (.set (.name 4) (.tup (.cons (.ix (.var 0) (.cst (.int (0)))) (.cons (.cst (.int (1))) .nil)))) (.seq (.ret (.ite (.cmp .gt (.var 6) (.var 2)) (.call "minus" F_minus.run (.cons (.var 4) (.cons (.var 3) .nil))) (.call "times" F_times.run (.cons (.call "plus" F_plus.run (.cons (.var 4) (.cons (.var 3) .nil))) (.cons (.tup (.cons (.neg (.cst (.int (1)))) (.cons (.cst (.int (1))) .nil))) .nil))))) .skip)))))⟩
theorem b_pace_of : bodyB false ["boat", "leg", "place", "flow", "speed", "word", "number"] (C8.fnScope (top 33)) (C8.fnBody (top 33)) F_pace_of = true := by decide +kernel
/-- order: names one other gap; def 32 -/
def F_order : Fn := ⟨["one", "other"], 3, (.seq (.set (.name 2) (.bin .sub (.bin .mul (.ix (.var 0) (.cst (.int (0)))) (.ix (.var 1) (.cst (.int (1))))) (.bin .mul (.ix (.var 1) (.cst (.int (0)))) (.ix (.var 0) (.cst (.int (1))))))) (.seq (.ret (.bin .sub (.cmp .gt (.var 2) (.cst (.int (0)))) (.cmp .lt (.var 2) (.cst (.int (0)))))) .skip))⟩
theorem b_order : bodyB false ["one", "other", "gap"] (C8.fnScope (top 32)) (C8.fnBody (top 32)) F_order = true := by decide +kernel
/-- one_more: names boat row others flow at leg place pace far; def 34 -/
def F_one_more : Fn := ⟨["boat", "row", "others", "flow"], 9, (.seq (.set (.name 4) (.bin .sub (.bi .len (.cons (.var 1) .nil)) (.cst (.int (1))))) (.seq (.ite (.cmp .eq (.var 4) (.bi .len (.cons (.ix (.var 0) (.cst (.int (2)))) .nil))) (.seq (.ret (.var 1)) .skip) .skip) (.seq (.par2 .val .val 5 6 (.ix (.ix (.var 0) (.cst (.int (2)))) (.var 4)) (.call "place_ahead" F_place_ahead.run (.cons (.var 0) (.cons (.var 4) .nil)))) (.seq (.ite (.cmp .ne (.ix (.var 5) (.cst (.int (0)))) (.cst (.str "wait"))) (.seq (.set (.name 7) (.call "pace_of" F_pace_of.run (.cons (.var 0) (.cons (.var 5) (.cons (.var 6) (.cons (.var 3) .nil)))))) (.seq (.set (.name 8) (.bin .mul (.bin .sub (.ix (.var 5) (.cst (.int (1)))) (.var 6)) (.ix (.var 7) (.cst (.int (1)))))) (.seq (.ret (.bin .add (.var 1) (.lst (.cons (.call "plus" F_plus.run (.cons (.ix (.var 1) (.neg (.cst (.int (1))))) (.cons (.ite (.cmp .gt (.ix (.var 7) (.cst (.int (0)))) (.cst (.int (0)))) (.call "lowest" F_lowest.run (.cons (.var 8) (.cons (.ix (.var 7) (.cst (.int (0)))) .nil))) (.call "lowest" F_lowest.run (.cons (.neg (.var 8)) (.cons (.neg (.ix (.var 7) (.cst (.int (0))))) .nil)))) .nil))) .nil)))) .skip))) .skip) (.seq (.ite (.cmp .lt (.ix (.var 5) (.cst (.int (1)))) (.bi .len (.cons (.var 2) .nil))) (.seq (.ret (.bin .add (.var 1) (.lst (.cons (.ite (.cmp .gt (.call "order" F_order.run (.cons (.ix (.var 2) (.ix (.var 5) (.cst (.int (1))))) (.cons (.ix (.var 1) (.neg (.cst (.int (1))))) .nil))) (.cst (.int (0)))) (.ix (.var 2) (.ix (.var 5) (.cst (.int (1))))) (.ix (.var 1) (.neg (.cst (.int (1)))))) .nil)))) .skip) .skip) (.seq (.ret (.var 1)) .skip))))))⟩
theorem b_one_more : bodyB false ["boat", "row", "others", "flow", "at", "leg", "place", "pace", "far"] (C8.fnScope (top 34)) (C8.fnBody (top 34)) F_one_more = true := by decide +kernel
/-- clocks: names plan flow one other ahead; def 35 -/
def B_clocks_1 : S := (.seq (.set (.name 4) (.bin .add (.bi .len (.cons (.var 2) .nil)) (.bi .len (.cons (.var 3) .nil)))) (.seq (.set (.name 2) (.call "one_more" F_one_more.run (.cons (.ix (.var 0) (.cst (.int (0)))) (.cons (.var 2) (.cons (.var 3) (.cons (.var 1) .nil)))))) (.seq (.set (.name 3) (.call "one_more" F_one_more.run (.cons (.ix (.var 0) (.cst (.int (1)))) (.cons (.var 3) (.cons (.var 2) (.cons (.var 1) .nil)))))) (.seq (.ite (.cmp .eq (.bin .add (.bi .len (.cons (.var 2) .nil)) (.bi .len (.cons (.var 3) .nil))) (.var 4)) (.seq (.ret (.lst (.cons (.var 2) (.cons (.var 3) .nil)))) .skip) .skip) .skip))))
def F_clocks : Fn := ⟨["plan", "flow"], 5, (.seq (.par2 .val .val 2 3 (.lst (.cons (.tup (.cons (.cst (.int (0))) (.cons (.cst (.int (1))) .nil))) .nil)) (.lst (.cons (.tup (.cons (.cst (.int (0))) (.cons (.cst (.int (1))) .nil))) .nil))) (.seq (.loop 1000000 (.cst (.bool true)) (B_clocks_1)) .skip))⟩
theorem b_clocks : bodyB false ["plan", "flow", "one", "other", "ahead"] (C8.fnScope (top 35)) (C8.fnBody (top 35)) F_clocks = true := by decide +kernel
/-- marks_of: names rows found time at one; def 39 -/
def B_marks_of_1 : S := (.seq (.set (.name 3) (.bi .len (.cons (.comp (.var 4) (.name 4) (.var 1) (.cmp .lt (.call "order" F_order.run (.cons (.var 4) (.cons (.var 2) .nil))) (.cst (.int (0)))) [4]) .nil))) (.seq (.set (.name 1) (.bin .add (.bin .add (.sl (.var 1) .no (.var 3)) (.lst (.cons (.var 2) .nil))) (.sl (.var 1) (.var 3) .no))) .skip))
def F_marks_of : Fn := ⟨["rows"], 5, (.seq (.set (.name 1) (.lst .nil)) (.seq (.each (.name 2) (.ext srtF (.cons (.bin .add (.ix (.var 0) (.cst (.int (0)))) (.ix (.var 0) (.cst (.int (1))))) .nil)) (B_marks_of_1)) (.seq (.ret (.var 1)) .skip)))⟩
theorem b_marks_of : bodyB false ["rows", "found", "time", "at", "one"] (C8.fnScope (top 39)) (C8.fnBody (top 39)) F_marks_of = true := by decide +kernel
/-- sign_of: names one; def 41 -/
def F_sign_of : Fn := ⟨["one"], 1, (.seq (.ret (.bin .sub (.cmp .gt (.ix (.var 0) (.cst (.int (0)))) (.cst (.int (0)))) (.cmp .lt (.ix (.var 0) (.cst (.int (0)))) (.cst (.int (0)))))) .skip)⟩
theorem b_sign_of : bodyB false ["one"] (C8.fnScope (top 41)) (C8.fnBody (top 41)) F_sign_of = true := by decide +kernel
/-- place_then: names boat row time flow at place pace; def 37 -/
def B_place_then_1 : S := (.seq (.ite (.cmp .lt (.call "order" F_order.run (.cons (.var 2) (.cons (.ix (.var 1) (.bin .add (.var 4) (.cst (.int (1))))) .nil))) (.cst (.int (0)))) (.seq (.set (.name 5) (.call "place_ahead" F_place_ahead.run (.cons (.var 0) (.cons (.var 4) .nil)))) (.seq (.set (.name 6) (.call "pace_of" F_pace_of.run (.cons (.var 0) (.cons (.ix (.ix (.var 0) (.cst (.int (2)))) (.var 4)) (.cons (.var 5) (.cons (.var 3) .nil)))))) (.seq (.ret (.call "plus" F_plus.run (.cons (.tup (.cons (.var 5) (.cons (.cst (.int (1))) .nil))) (.cons (.call "times" F_times.run (.cons (.var 6) (.cons (.call "minus" F_minus.run (.cons (.var 2) (.cons (.ix (.var 1) (.var 4)) .nil))) .nil))) .nil)))) .skip))) .skip) .skip)
def F_place_then : Fn := ⟨["boat", "row", "time", "flow"], 7, (.seq (.each (.name 4) (.rng1 (.bin .sub (.bi .len (.cons (.var 1) .nil)) (.cst (.int (1))))) (B_place_then_1)) (.seq (.ret (.tup (.cons (.call "place_ahead" F_place_ahead.run (.cons (.var 0) (.cons (.bin .sub (.bi .len (.cons (.var 1) .nil)) (.cst (.int (1)))) .nil))) (.cons (.cst (.int (1))) .nil)))) .skip))⟩
theorem b_place_then : bodyB false ["boat", "row", "time", "flow", "at", "place", "pace"] (C8.fnScope (top 37)) (C8.fnBody (top 37)) F_place_then = true := by decide +kernel
/-- crossed: names gaps begin end share; def 40 -/
def F_crossed : Fn := ⟨["gaps", "begin", "end"], 4, (.seq (.set (.name 3) (.call "lowest" F_lowest.run (.cons (.bin .mul (.ix (.ix (.var 0) (.cst (.int (0)))) (.cst (.int (0)))) (.ix (.ix (.var 0) (.cst (.int (1)))) (.cst (.int (1))))) (.cons (.bin .sub (.bin .mul (.ix (.ix (.var 0) (.cst (.int (0)))) (.cst (.int (0)))) (.ix (.ix (.var 0) (.cst (.int (1)))) (.cst (.int (1))))) (.bin .mul (.ix (.ix (.var 0) (.cst (.int (1)))) (.cst (.int (0)))) (.ix (.ix (.var 0) (.cst (.int (0)))) (.cst (.int (1)))))) .nil)))) (.seq (.ite (.cmp .lt (.ix (.var 3) (.cst (.int (1)))) (.cst (.int (0)))) (.seq (.set (.name 3) (.tup (.cons (.neg (.ix (.var 3) (.cst (.int (0))))) (.cons (.neg (.ix (.var 3) (.cst (.int (1))))) .nil)))) .skip) .skip) (.seq (.ret (.call "plus" F_plus.run (.cons (.var 1) (.cons (.call "times" F_times.run (.cons (.var 3) (.cons (.call "minus" F_minus.run (.cons (.var 2) (.cons (.var 1) .nil))) .nil))) .nil)))) .skip)))⟩
theorem b_crossed : bodyB false ["gaps", "begin", "end", "share"] (C8.fnScope (top 40)) (C8.fnBody (top 40)) F_crossed = true := by decide +kernel
/-- met: names plan flow rows marks places gaps found side begun at mark here later boat time one other; def 42 -/
def B_met_1 : S := (.seq (.set (.name 11) (.call "sign_of" F_sign_of.run (.cons (.ix (.var 5) (.var 9)) .nil))) (.seq (.set (.name 12) (.ite (.cmp .lt (.bin .add (.var 9) (.cst (.int (1)))) (.bi .len (.cons (.var 3) .nil))) (.call "sign_of" F_sign_of.run (.cons (.ix (.var 5) (.bin .add (.var 9) (.cst (.int (1))))) .nil)) (.var 11))) (.seq (.ite (.and (.cmp .eq (.var 11) (.cst (.int (0)))) (.cmp .is (.var 8) (.cst .none))) (.seq (.set (.name 8) (.ix (.ix (.var 4) (.cst (.int (0)))) (.var 9))) .skip) .skip) (.seq (.ite (.and (.cmp .eq (.var 11) (.cst (.int (0)))) (.cmp .ne (.var 12) (.cst (.int (0))))) (.seq (.set (.name 6) (.bin .add (.var 6) (.lst (.cons (.tup (.cons (.var 8) (.cons (.ite (.cmp .eq (.var 7) (.neg (.var 12))) (.cst (.str "pass")) (.cst (.str "touch"))) .nil))) .nil)))) (.seq (.set (.name 8) (.cst .none)) .skip)) .skip) (.seq (.set (.name 7) (.ite (.cmp .ne (.var 11) (.cst (.int (0)))) (.var 11) (.var 7))) (.seq (.ite (.cmp .lt (.bin .mul (.var 11) (.var 12)) (.cst (.int (0)))) (.seq (.set (.name 14) (.call "crossed" F_crossed.run (.cons (.tup (.cons (.ix (.var 5) (.var 9)) (.cons (.ix (.var 5) (.bin .add (.var 9) (.cst (.int (1))))) .nil))) (.cons (.var 10) (.cons (.ix (.var 3) (.bin .add (.var 9) (.cst (.int (1))))) .nil))))) (.seq (.set (.name 6) (.bin .add (.var 6) (.lst (.cons (.tup (.cons (.call "place_then" F_place_then.run (.cons (.ix (.var 0) (.cst (.int (0)))) (.cons (.ix (.var 2) (.cst (.int (0)))) (.cons (.var 14) (.cons (.var 1) .nil))))) (.cons (.cst (.str "pass")) .nil))) .nil)))) .skip)) .skip) (.seq (.set (.name 7) (.ite (.cmp .ne (.var 12) (.cst (.int (0)))) (.var 12) (.var 7))) .skip)))))))
def F_met : Fn := ⟨["plan", "flow"], 17, (.seq (.set (.name 2) (.call "clocks" F_clocks.run (.cons (.var 0) (.cons (.var 1) .nil)))) (.seq (.set (.name 3) (.call "marks_of" F_marks_of.run (.cons (.var 2) .nil))) (.seq (.setC .val 4 (.comp (.comp (.call "place_then" F_place_then.run (.cons (.ix (.var 0) (.var 13)) (.cons (.ix (.var 2) (.var 13)) (.cons (.var 10) (.cons (.var 1) .nil))))) (.name 10) (.var 3) .no [10]) (.name 13) (.tup (.cons (.cst (.int (0))) (.cons (.cst (.int (1))) .nil))) .no [13])) (.seq (.setC .val 5 (.comp (.call "minus" F_minus.run (.cons (.var 15) (.cons (.var 16) .nil))) (.cons (.name 15) (.cons (.name 16) .nil)) (.zip (.ix (.var 4) (.cst (.int (0)))) (.ix (.var 4) (.cst (.int (1))))) .no [15, 16])) (.seq (.par3 .val .val .val 6 7 8 (.lst .nil) (.cst (.int (0))) (.cst .none)) (.seq (.each (.cons (.name 9) (.cons (.name 10) .nil)) (.enum (.var 3)) (B_met_1)) (.seq (.ret (.bin .add (.var 6) (.ite (.cmp .isnt (.var 8) (.cst .none)) (.lst (.cons (.tup (.cons (.var 8) (.cons (.cst (.str "touch")) .nil))) .nil)) (.lst .nil)))) .skip)))))))⟩
theorem b_met : bodyB false ["plan", "flow", "rows", "marks", "places", "gaps", "found", "side", "begun", "at", "mark", "here", "later", "boat", "time", "one", "other"] (C8.fnScope (top 42)) (C8.fnBody (top 42)) F_met = true := by decide +kernel
/-- meetings: names plan flow; def 43 -/
def F_meetings : Fn := ⟨["plan", "flow"], 2, (.seq (.ex (.call "need_both" F_need_both.run (.cons (.var 0) (.cons (.var 1) .nil)))) (.seq (.ret (.call "met" F_met.run (.cons (.var 0) (.cons (.var 1) .nil)))) .skip))⟩
theorem b_meetings : bodyB false ["plan", "flow"] (C8.fnScope (top 43)) (C8.fnBody (top 43)) F_meetings = true := by decide +kernel
/-- _law_lowest: names _law_top _law_below _law_sign _law_one _law_other; def 53 -/
def B_law_lowest_1 : S := (.seq (.par2 .val .val 3 4 (.var 4) (.bin .mod (.var 3) (.var 4))) .skip)
def F_law_lowest : Fn := ⟨["_law_top", "_law_below"], 5, (.seq (.par2 .val .val 3 4 (.bi .abs (.cons (.var 0) .nil)) (.bi .abs (.cons (.var 1) .nil))) (.seq (.loop 1000000 (.cmp .ne (.var 4) (.cst (.int (0)))) (B_law_lowest_1)) (.seq (.set (.name 2) (.ite (.cmp .gt (.var 1) (.cst (.int (0)))) (.cst (.int (1))) (.neg (.cst (.int (1)))))) (.seq (.ret (.tup (.cons (.bin .div (.bin .mul (.var 2) (.var 0)) (.var 3)) (.cons (.bin .div (.bin .mul (.var 2) (.var 1)) (.var 3)) .nil)))) .skip))))⟩
theorem b_law_lowest : bodyB false ["_law_top", "_law_below", "_law_sign", "_law_one", "_law_other"] (C8.fnScope (top 53)) (C8.fnBody (top 53)) F_law_lowest = true := by decide +kernel
/-- _law_choice: names _law_bag_here _law_some; def 52 -/
def F_law_choice : Fn := ⟨["_law_bag_here", "_law_some"], 2, (.seq (.ret (.ix (.var 1) (.callB "_law_take" F_law_take.runB 0 (.cons (.bi .len (.cons (.var 1) .nil)) .nil)))) .skip)⟩
theorem b_law_choice : bodyB false ["_law_bag_here", "_law_some"] (C8.fnScope (top 52)) (C8.fnBody (top 52)) F_law_choice = true := by decide +kernel
/-- _law_mixed: names _law_bag_here _law_plan_here _law_speed _law_below; def 66 -/
def F_law_mixed : Fn := ⟨["_law_bag_here", "_law_plan_here"], 4, (.seq (.set (.name 2) (.bi .min (.cons (.ix (.ix (.var 1) (.cst (.int (0)))) (.cst (.int (0)))) (.cons (.ix (.ix (.var 1) (.cst (.int (1)))) (.cst (.int (0)))) .nil)))) (.seq (.set (.name 3) (.bin .add (.cst (.int (2))) (.callB "_law_take" F_law_take.runB 0 (.cons (.callB "_law_choice" F_law_choice.runB 0 (.cons (.lst (.cons (.cst (.int (30))) (.cons (.cst (.int (500))) (.cons (.bin .pow (.cst (.int (10))) (.cst (.int (7)))) .nil)))) .nil)) .nil)))) (.seq (.ret (.call "_law_lowest" F_law_lowest.run (.cons (.bin .add (.cst (.int (1))) (.callB "_law_take" F_law_take.runB 0 (.cons (.bin .sub (.bin .mul (.var 2) (.var 3)) (.cst (.int (1)))) .nil))) (.cons (.var 3) .nil)))) .skip)))⟩
theorem b_law_mixed : bodyB false ["_law_bag_here", "_law_plan_here", "_law_speed", "_law_below"] (C8.fnScope (top 66)) (C8.fnBody (top 66)) F_law_mixed = true := by decide +kernel
/-- home_at: names plan flow rows is_home sign boat; def 44 -/
def F_home_at : Fn := ⟨["plan", "flow"], 6, (.seq (.set (.name 2) (.call "clocks" F_clocks.run (.cons (.var 0) (.cons (.var 1) .nil)))) (.seq (.setC .val 3 (.comp (.cmp .eq (.bi .len (.cons (.ix (.var 2) (.var 5)) .nil)) (.bin .add (.bi .len (.cons (.ix (.ix (.var 0) (.var 5)) (.cst (.int (2)))) .nil)) (.cst (.int (1))))) (.name 5) (.tup (.cons (.cst (.int (0))) (.cons (.cst (.int (1))) .nil))) .no [5])) (.seq (.ite (.or (.not (.ix (.var 3) (.cst (.int (0))))) (.not (.ix (.var 3) (.cst (.int (1)))))) (.seq (.ret (.ite (.cmp .eq (.ix (.var 3) (.cst (.int (0)))) (.ix (.var 3) (.cst (.int (1))))) (.cst .none) (.ext idxF (.cons (.var 3) .nil)))) .skip) .skip) (.seq (.set (.name 4) (.call "order" F_order.run (.cons (.ix (.ix (.var 2) (.cst (.int (0)))) (.neg (.cst (.int (1))))) (.cons (.ix (.ix (.var 2) (.cst (.int (1)))) (.neg (.cst (.int (1))))) .nil)))) (.seq (.ret (.ite (.cmp .eq (.var 4) (.cst (.int (0)))) (.cst .none) (.bi .int (.cons (.cmp .gt (.var 4) (.cst (.int (0)))) .nil)))) .skip)))))⟩
theorem b_home_at : bodyB false ["plan", "flow", "rows", "is_home", "sign", "boat"] (C8.fnScope (top 44)) (C8.fnBody (top 44)) F_home_at = true := by decide +kernel
/-- story_at: names plan flow place kind; def 45 -/
def F_story_at : Fn := ⟨["plan", "flow"], 4, (.seq (.ret (.tup (.cons (.bi .tuple (.cons (.comp (.var 3) (.cons (.name 2) (.cons (.name 3) .nil)) (.call "met" F_met.run (.cons (.var 0) (.cons (.var 1) .nil))) .no [2, 3]) .nil)) (.cons (.call "home_at" F_home_at.run (.cons (.var 0) (.cons (.var 1) .nil))) .nil)))) .skip)⟩
theorem b_story_at : bodyB false ["plan", "flow", "place", "kind"] (C8.fnScope (top 45)) (C8.fnBody (top 45)) F_story_at = true := by decide +kernel
/-- story: names plan flow; def 46 -/
def F_story : Fn := ⟨["plan", "flow"], 2, (.seq (.ex (.call "need_both" F_need_both.run (.cons (.var 0) (.cons (.var 1) .nil)))) (.seq (.ret (.call "story_at" F_story_at.run (.cons (.var 0) (.cons (.var 1) .nil)))) .skip))⟩
theorem b_story : bodyB false ["plan", "flow"] (C8.fnScope (top 46)) (C8.fnBody (top 46)) F_story = true := by decide +kernel
/-- done_at: names plan flow row; def 36 -/
def F_done_at : Fn := ⟨["plan", "flow"], 3, (.seq (.ex (.call "need_both" F_need_both.run (.cons (.var 0) (.cons (.var 1) .nil)))) (.seq (.ret (.bi .tuple (.cons (.comp (.sl (.var 2) (.cst (.int (1))) .no) (.name 2) (.call "clocks" F_clocks.run (.cons (.var 0) (.cons (.var 1) .nil))) .no [2]) .nil))) .skip))⟩
theorem b_done_at : bodyB false ["plan", "flow", "row"] (C8.fnScope (top 36)) (C8.fnBody (top 36)) F_done_at = true := by decide +kernel
/-- need_number: names value low high; def 26 -/
def F_need_number : Fn := ⟨["value", "low", "high"], 3, (.seq (.ite (.not (.call "is_whole" F_is_whole.run (.cons (.var 0) (.cons (.var 1) (.cons (.var 2) .nil))))) (.seq (.raise "InvalidNumber") .skip) .skip) .skip)⟩
theorem b_need_number : bodyB false ["value", "low", "high"] (C8.fnScope (top 26)) (C8.fnBody (top 26)) F_need_number = true := by decide +kernel
/-- place_at: names plan flow boat time; def 38 -/
def F_place_at : Fn := ⟨["plan", "flow", "boat", "time"], 4, (.seq (.ex (.call "need_both" F_need_both.run (.cons (.var 0) (.cons (.var 1) .nil)))) (.seq (.ex (.call "need_number" F_need_number.run (.cons (.var 2) (.cons (.cst (.int (0))) (.cons (.cst (.int (1))) .nil))))) (.seq (.ite (.or (.not (.call "is_fraction" F_is_fraction.run (.cons (.var 3) .nil))) (.cmp .lt (.ix (.var 3) (.cst (.int (0)))) (.cst (.int (0))))) (.seq (.raise "InvalidNumber") .skip) .skip) (.seq (.ret (.call "place_then" F_place_then.run (.cons (.ix (.var 0) (.var 2)) (.cons (.ix (.call "clocks" F_clocks.run (.cons (.var 0) (.cons (.var 1) .nil))) (.var 2)) (.cons (.var 3) (.cons (.var 1) .nil)))))) .skip))))⟩
theorem b_place_at : bodyB false ["plan", "flow", "boat", "time"] (C8.fnScope (top 38)) (C8.fnBody (top 38)) F_place_at = true := by decide +kernel
/-- _law_refused: names _law_plan_here _law_odd _law_words; def 70 -/
def B_law_refused_1 : S := (.seq (.own .own 2 (.lst (.cons (.lam "_law_error" g_law_error (.call "done_at" F_done_at.run (.cons (.var 0) (.cons (.var 1) .nil)))) .nil))) (.seq (.app 2 (.lam "_law_error" g_law_error (.call "meetings" F_meetings.run (.cons (.var 0) (.cons (.var 1) .nil))))) (.seq (.app 2 (.lam "_law_error" g_law_error (.call "story" F_story.run (.cons (.var 0) (.cons (.var 1) .nil))))) (.seq (.app 2 (.lam "_law_error" g_law_error (.call "place_at" F_place_at.run (.cons (.var 0) (.cons (.var 1) (.cons (.cst .none) (.cons (.cst .none) .nil))))))) (.seq (.frz 2) (.seq (.ite (.cmp .ne (.var 2) (.bin .mul (.lst (.cons (.cst (.str "flow value")) .nil)) (.cst (.int (4))))) (.seq (.ret (.cst (.bool false))) .skip) .skip) .skip))))))
def B_law_refused_2 : S := (.seq (.ite (.cmp .ne (.lam "_law_error" g_law_error (.call "place_at" F_place_at.run (.cons (.var 0) (.cons (.tup (.cons (.cst (.int (1))) (.cons (.cst (.int (9))) .nil))) (.cons (.var 1) (.cons (.cst .none) .nil)))))) (.cst (.str "number value"))) (.seq (.ret (.cst (.bool false))) .skip) .skip) .skip)
def B_law_refused_3 : S := (.seq (.ite (.cmp .ne (.lam "_law_error" g_law_error (.call "place_at" F_place_at.run (.cons (.var 0) (.cons (.tup (.cons (.cst (.int (1))) (.cons (.cst (.int (9))) .nil))) (.cons (.cst (.int (0))) (.cons (.var 1) .nil)))))) (.cst (.str "number value"))) (.seq (.ret (.cst (.bool false))) .skip) .skip) .skip)
def F_law_refused : Fn := ⟨["_law_plan_here"], 3, (.seq (.each (.name 1) (.lst (.cons (.tup (.cons (.cst (.int (0))) (.cons (.cst (.int (1))) .nil))) (.cons (.tup (.cons (.cst (.int (7))) (.cons (.cst (.int (1))) .nil))) (.cons (.tup (.cons (.cst (.int (2))) (.cons (.cst (.int (4))) .nil))) (.cons (.cst .none) .nil))))) (B_law_refused_1)) (.seq (.each (.name 1) (.lst (.cons (.cst (.int (2))) (.cons (.neg (.cst (.int (1)))) (.cons (.cst (.bool true)) (.cons (.cst .none) .nil))))) (B_law_refused_2)) (.seq (.each (.name 1) (.lst (.cons (.tup (.cons (.neg (.cst (.int (1)))) (.cons (.cst (.int (2))) .nil))) (.cons (.tup (.cons (.cst (.int (2))) (.cons (.cst (.int (4))) .nil))) (.cons (.cst (.int (1))) (.cons (.cst .none) (.cons (.tup (.cons (.cst (.int (1))) (.cons (.cst (.int (0))) .nil))) .nil)))))) (B_law_refused_3)) (.seq (.ret (.cmp .eq (.lam "_law_error" g_law_error (.call "story" F_story.run (.cons (.sl (.var 0) .no (.cst (.int (1)))) (.cons (.cst .none) .nil)))) (.cst (.str "plan value")))) .skip))))⟩
theorem b_law_refused : bodyB true ["_law_plan_here", "_law_odd", "_law_words"] (C8.fnScope (top 70)) (C8.fnBody (top 70)) F_law_refused = true := by decide +kernel
/-- _law_paces: names _law_plan_here _law_flow _law_boat _law_top _law_below _law_found _law_whole _law_row; def 57 -/
def B_law_paces_1 : S := (.seq (.set (.name 7) (.tup (.cons (.bin .sub (.bin .mul (.ix (.var 2) (.cst (.int (0)))) (.var 4)) (.var 3)) (.cons (.bin .add (.bin .mul (.ix (.var 2) (.cst (.int (0)))) (.var 4)) (.var 3)) (.cons (.var 3) .nil))))) (.seq (.app 5 (.var 7)) (.seq (.set (.name 6) (.bin .mul (.bin .mul (.var 6) (.ix (.var 7) (.cst (.int (0))))) (.ix (.var 7) (.cst (.int (1)))))) .skip)))
def F_law_paces : Fn := ⟨["_law_plan_here", "_law_flow"], 8, (.seq (.set (.cons (.name 3) (.cons (.name 4) .nil)) (.var 1)) (.seq (.par2 .own .val 5 6 (.lst .nil) (.cst (.int (1)))) (.seq (.each (.name 2) (.var 0) (B_law_paces_1)) (.seq (.frz 5) (.seq (.ret (.tup (.cons (.var 5) (.cons (.bin .mul (.var 6) (.var 3)) .nil)))) .skip)))))⟩
theorem b_law_paces : bodyB false ["_law_plan_here", "_law_flow", "_law_boat", "_law_top", "_law_below", "_law_found", "_law_whole", "_law_row"] (C8.fnScope (top 57)) (C8.fnBody (top 57)) F_law_paces = true := by decide +kernel
/-- _law_spots: names _law_boat _law_found _law_word _law_number; def 56 -/
def B_law_spots_1 : S := (.seq (.app 1 (.ite (.cmp .eq (.var 2) (.cst (.str "wait"))) (.ownIx 1 (.neg (.cst (.int (1))))) (.var 3))) .skip)
def F_law_spots : Fn := ⟨["_law_boat"], 4, (.seq (.own .own 1 (.lst (.cons (.ix (.var 0) (.cst (.int (1)))) .nil))) (.seq (.each (.cons (.name 2) (.cons (.name 3) .nil)) (.ix (.var 0) (.cst (.int (2)))) (B_law_spots_1)) (.seq (.retOwn 1) .skip)))⟩
theorem b_law_spots : bodyB false ["_law_boat", "_law_found", "_law_word", "_law_number"] (C8.fnScope (top 56)) (C8.fnBody (top 56)) F_law_spots = true := by decide +kernel
/-- _law_pace: names _law_leg _law_spot _law_row; def 58 -/
def F_law_pace : Fn := ⟨["_law_leg", "_law_spot", "_law_row"], 3, (.seq (.ite (.cmp .eq (.ix (.var 0) (.cst (.int (0)))) (.cst (.str "wait"))) (.seq (.ret (.cst (.int (0)))) .skip) .skip) (.seq (.ite (.cmp .eq (.ix (.var 0) (.cst (.int (0)))) (.cst (.str "drift"))) (.seq (.ret (.neg (.ix (.var 2) (.cst (.int (2)))))) .skip) .skip) (.seq (.ret (.ite (.cmp .gt (.ix (.var 0) (.cst (.int (1)))) (.var 1)) (.ix (.var 2) (.cst (.int (0)))) (.neg (.ix (.var 2) (.cst (.int (1))))))) .skip)))⟩
theorem b_law_pace : bodyB false ["_law_leg", "_law_spot", "_law_row"] (C8.fnScope (top 58)) (C8.fnBody (top 58)) F_law_pace = true := by decide +kernel
/-- _law_clock: names _law_plan_here _law_flow _law_paces_here _law_whole _law_rows _law_more _law_who _law_row _law_others _law_at _law_leg _law_spot _law_pace_here _law_time; def 59 -/
def I_law_clock : S := (.ite (.cmp .lt (.var 9) (.bi .len (.cons (.ix (.ix (.var 0) (.var 6)) (.cst (.int (2)))) .nil))) (.seq (.set (.name 10) (.ix (.ix (.ix (.var 0) (.var 6)) (.cst (.int (2)))) (.var 9))) (.seq (.set (.name 11) (.ix (.call "_law_spots" F_law_spots.run (.cons (.ix (.var 0) (.var 6)) .nil)) (.var 9))) (.seq (.ite (.cmp .ne (.ix (.var 10) (.cst (.int (0)))) (.cst (.str "wait"))) (.seq (.set (.name 12) (.call "_law_pace" F_law_pace.run (.cons (.var 10) (.cons (.var 11) (.cons (.ix (.var 2) (.var 6)) .nil))))) (.seq (.set (.name 13) (.bin .div (.bin .mul (.bi .abs (.cons (.bin .sub (.ix (.var 10) (.cst (.int (1)))) (.var 11)) .nil)) (.var 3)) (.bi .abs (.cons (.var 12) .nil)))) (.seq (.app 7 (.bin .add (.ownIx 7 (.neg (.cst (.int (1))))) (.var 13))) (.seq (.set (.name 5) (.cst (.bool true))) .skip)))) (.seq (.ite (.cmp .lt (.ix (.var 10) (.cst (.int (1)))) (.ownLen 8)) (.seq (.app 7 (.bi .max (.cons (.ownIx 7 (.neg (.cst (.int (1))))) (.cons (.ownIx 8 (.ix (.var 10) (.cst (.int (1))))) .nil)))) (.seq (.set (.name 5) (.cst (.bool true))) .skip)) .skip) .skip)) .skip))) .skip)
def F_law_clock : Fn := ⟨["_law_plan_here", "_law_flow"], 14, (.seq (.set (.cons (.name 2) (.cons (.name 3) .nil)) (.call "_law_paces" F_law_paces.run (.cons (.var 0) (.cons (.var 1) .nil)))) (.blk (clock I_law_clock)))⟩
theorem b_law_clock : bodyB false ["_law_plan_here", "_law_flow", "_law_paces_here", "_law_whole", "_law_rows", "_law_more", "_law_who", "_law_row", "_law_others", "_law_at", "_law_leg", "_law_spot", "_law_pace_here", "_law_time"] (C8.fnScope (top 59)) (C8.fnBody (top 59)) F_law_clock = true := by decide +kernel
/-- _law_there: names _law_plan_here _law_flow _law_rows _law_who _law_time _law_at _law_paces_here _law_whole _law_spots_here _law_row _law_pace_here; def 60 -/
def B_law_there_1 : S := (.seq (.ite (.cmp .lt (.var 4) (.ix (.var 9) (.bin .add (.var 5) (.cst (.int (1)))))) (.seq (.set (.name 10) (.call "_law_pace" F_law_pace.run (.cons (.ix (.ix (.ix (.var 0) (.var 3)) (.cst (.int (2)))) (.var 5)) (.cons (.ix (.var 8) (.var 5)) (.cons (.ix (.var 6) (.var 3)) .nil))))) (.seq (.ret (.bin .add (.bin .mul (.ix (.var 8) (.var 5)) (.var 7)) (.bin .mul (.var 10) (.bin .sub (.var 4) (.ix (.var 9) (.var 5)))))) .skip)) .skip) .skip)
def F_law_there : Fn := ⟨["_law_plan_here", "_law_flow", "_law_rows", "_law_who", "_law_time"], 11, (.seq (.set (.cons (.name 6) (.cons (.name 7) .nil)) (.call "_law_paces" F_law_paces.run (.cons (.var 0) (.cons (.var 1) .nil)))) (.seq (.par2 .val .val 8 9 (.call "_law_spots" F_law_spots.run (.cons (.ix (.var 0) (.var 3)) .nil)) (.ix (.var 2) (.var 3))) (.seq (.each (.name 5) (.rng1 (.bin .sub (.bi .len (.cons (.var 9) .nil)) (.cst (.int (1))))) (B_law_there_1)) (.seq (.ret (.bin .mul (.ix (.var 8) (.bin .sub (.bi .len (.cons (.var 9) .nil)) (.cst (.int (1))))) (.var 7))) .skip))))⟩
theorem b_law_there : bodyB false ["_law_plan_here", "_law_flow", "_law_rows", "_law_who", "_law_time", "_law_at", "_law_paces_here", "_law_whole", "_law_spots_here", "_law_row", "_law_pace_here"] (C8.fnScope (top 60)) (C8.fnBody (top 60)) F_law_there = true := by decide +kernel
/-- _law_gaps: names _law_plan_here _law_flow _law_rows _law_gaps_here _law_time _law_at _law_marks _law_found _law_mine _law_last _law_end; def 61 -/
def B_law_gaps_1 : S := (.seq (.set (.name 8) (.call "_law_there" F_law_there.run (.cons (.var 0) (.cons (.var 1) (.cons (.var 2) (.cons (.cst (.int (0))) (.cons (.var 4) .nil))))))) (.seq (.app 3 (.bin .sub (.var 8) (.call "_law_there" F_law_there.run (.cons (.var 0) (.cons (.var 1) (.cons (.var 2) (.cons (.cst (.int (1))) (.cons (.var 4) .nil)))))))) .skip))
def B_law_gaps_2 : S := (.seq (.set (.name 9) (.cmp .eq (.bin .add (.var 5) (.cst (.int (1)))) (.bi .len (.cons (.var 6) .nil)))) (.seq (.set (.name 10) (.ite (.var 9) (.cst .none) (.ix (.var 6) (.bin .add (.var 5) (.cst (.int (1))))))) (.seq (.app 7 (.tup (.cons (.ix (.var 6) (.var 5)) (.cons (.var 10) (.cons (.ix (.var 3) (.var 5)) (.cons (.ix (.var 3) (.ite (.var 9) (.var 5) (.bin .add (.var 5) (.cst (.int (1)))))) .nil)))))) .skip)))
def F_law_gaps : Fn := ⟨["_law_plan_here", "_law_flow"], 11, (.seq (.set (.name 2) (.call "_law_clock" F_law_clock.run (.cons (.var 0) (.cons (.var 1) .nil)))) (.seq (.par2 .val .own 6 7 (.ext srtF (.cons (.bin .add (.ix (.var 2) (.cst (.int (0)))) (.ix (.var 2) (.cst (.int (1))))) .nil)) (.lst .nil)) (.seq (.own .own 3 (.lst .nil)) (.seq (.each (.name 4) (.var 6) (B_law_gaps_1)) (.seq (.frz 3) (.seq (.each (.name 5) (.rng1 (.bi .len (.cons (.var 6) .nil))) (B_law_gaps_2)) (.seq (.retOwn 7) .skip)))))))⟩
theorem b_law_gaps : bodyB false ["_law_plan_here", "_law_flow", "_law_rows", "_law_gaps_here", "_law_time", "_law_at", "_law_marks", "_law_found", "_law_mine", "_law_last", "_law_end"] (C8.fnScope (top 61)) (C8.fnBody (top 61)) F_law_gaps = true := by decide +kernel
/-- _law_stretches: names _law_plan_here _law_flow _law_found _law_last _law_begin _law_end _law_one _law_two _law_time; def 62 -/
def B_law_stretches_1 : S := (.seq (.set (.name 3) (.ite (.cmp .ne (.var 6) (.cst (.int (0)))) (.bin .sub (.cmp .gt (.var 6) (.cst (.int (0)))) (.cmp .lt (.var 6) (.cst (.int (0))))) (.var 3))) (.seq (.ite (.and (.cmp .eq (.var 6) (.cst (.int (0)))) (.or (.ownNil 2 false) (.cmp .ne (.ix (.ownIx 2 (.neg (.cst (.int (1))))) (.cst (.int (1)))) (.tup (.cons (.var 4) (.cons (.cst (.int (1))) .nil)))))) (.seq (.app 2 (.tup (.cons (.tup (.cons (.var 4) (.cons (.cst (.int (1))) .nil))) (.cons (.tup (.cons (.var 4) (.cons (.cst (.int (1))) .nil))) (.cons (.var 3) (.cons (.cst (.int (0))) .nil)))))) .skip) .skip) (.seq (.ite (.and (.cmp .eq (.var 6) (.cst (.int (0)))) (.cmp .eq (.var 7) (.cst (.int (0))))) (.seq (.setIx 2 (.neg (.cst (.int (1)))) (.bin .add (.tup (.cons (.ix (.ownIx 2 (.neg (.cst (.int (1))))) (.cst (.int (0)))) (.cons (.ite (.cmp .is (.var 5) (.cst .none)) (.cst .none) (.tup (.cons (.var 5) (.cons (.cst (.int (1))) .nil)))) .nil))) (.sl (.ownIx 2 (.neg (.cst (.int (1))))) (.cst (.int (2))) .no))) .skip) (.seq (.ite (.cmp .eq (.var 6) (.cst (.int (0)))) (.seq (.setIx 2 (.neg (.cst (.int (1)))) (.bin .add (.sl (.ownIx 2 (.neg (.cst (.int (1))))) .no (.cst (.int (3)))) (.tup (.cons (.bin .sub (.cmp .gt (.var 7) (.cst (.int (0)))) (.cmp .lt (.var 7) (.cst (.int (0))))) .nil)))) .skip) (.seq (.ite (.and (.cmp .ne (.var 7) (.cst (.int (0)))) (.cmp .ne (.cmp .gt (.var 6) (.cst (.int (0)))) (.cmp .gt (.var 7) (.cst (.int (0)))))) (.seq (.set (.name 8) (.call "_law_lowest" F_law_lowest.run (.cons (.bin .sub (.bin .mul (.var 4) (.bin .sub (.var 7) (.var 6))) (.bin .mul (.var 6) (.bin .sub (.var 5) (.var 4)))) (.cons (.bin .sub (.var 7) (.var 6)) .nil)))) (.seq (.app 2 (.tup (.cons (.var 8) (.cons (.var 8) (.cons (.bin .sub (.cmp .gt (.var 6) (.cst (.int (0)))) (.cmp .lt (.var 6) (.cst (.int (0))))) (.cons (.bin .sub (.cmp .gt (.var 7) (.cst (.int (0)))) (.cmp .lt (.var 7) (.cst (.int (0))))) .nil)))))) .skip)) .skip) .skip)) .skip)) (.seq (.set (.name 3) (.ite (.cmp .ne (.var 7) (.cst (.int (0)))) (.bin .sub (.cmp .gt (.var 7) (.cst (.int (0)))) (.cmp .lt (.var 7) (.cst (.int (0))))) (.var 3))) .skip))))
def F_law_stretches : Fn := ⟨["_law_plan_here", "_law_flow"], 9, (.seq (.par2 .own .val 2 3 (.lst .nil) (.cst (.int (0)))) (.seq (.each (.cons (.name 4) (.cons (.name 5) (.cons (.name 6) (.cons (.name 7) .nil)))) (.call "_law_gaps" F_law_gaps.run (.cons (.var 0) (.cons (.var 1) .nil))) (B_law_stretches_1)) (.seq (.retOwn 2) .skip)))⟩
theorem b_law_stretches : bodyB false ["_law_plan_here", "_law_flow", "_law_found", "_law_last", "_law_begin", "_law_end", "_law_one", "_law_two", "_law_time"] (C8.fnScope (top 62)) (C8.fnBody (top 62)) F_law_stretches = true := by decide +kernel
/-- _law_met: names _law_plan_here _law_flow _law_whole _law_rows _law_found _law_end _law_ahead _law_behind _law_low _law_here _law_rise _law_far _law_place _law_top _law_below; def 63 -/
def B_law_met_1 : S := (.seq (.set (.name 8) (.bin .div (.var 13) (.var 14))) (.seq (.set (.name 9) (.call "_law_there" F_law_there.run (.cons (.var 0) (.cons (.var 1) (.cons (.var 3) (.cons (.cst (.int (0))) (.cons (.var 8) .nil))))))) (.seq (.set (.name 10) (.bin .sub (.call "_law_there" F_law_there.run (.cons (.var 0) (.cons (.var 1) (.cons (.var 3) (.cons (.cst (.int (0))) (.cons (.bin .add (.var 8) (.cst (.int (1)))) .nil)))))) (.var 9))) (.seq (.set (.name 11) (.bin .add (.bin .mul (.var 9) (.var 14)) (.bin .mul (.var 10) (.bin .sub (.var 13) (.bin .mul (.var 8) (.var 14)))))) (.seq (.set (.name 12) (.call "_law_lowest" F_law_lowest.run (.cons (.var 11) (.cons (.bin .mul (.var 2) (.var 14)) .nil)))) (.seq (.app 4 (.tup (.cons (.var 12) (.cons (.ite (.cmp .lt (.bin .mul (.var 6) (.var 7)) (.cst (.int (0)))) (.cst (.str "pass")) (.cst (.str "touch"))) .nil)))) .skip))))))
def F_law_met : Fn := ⟨["_law_plan_here", "_law_flow"], 15, (.seq (.par2 .val .own 3 4 (.call "_law_clock" F_law_clock.run (.cons (.var 0) (.cons (.var 1) .nil))) (.lst .nil)) (.seq (.set (.name 2) (.ix (.call "_law_paces" F_law_paces.run (.cons (.var 0) (.cons (.var 1) .nil))) (.cst (.int (1))))) (.seq (.each (.cons (.cons (.name 13) (.cons (.name 14) .nil)) (.cons (.name 5) (.cons (.name 6) (.cons (.name 7) .nil)))) (.call "_law_stretches" F_law_stretches.run (.cons (.var 0) (.cons (.var 1) .nil))) (B_law_met_1)) (.seq (.retOwn 4) .skip))))⟩
theorem b_law_met : bodyB false ["_law_plan_here", "_law_flow", "_law_whole", "_law_rows", "_law_found", "_law_end", "_law_ahead", "_law_behind", "_law_low", "_law_here", "_law_rise", "_law_far", "_law_place", "_law_top", "_law_below"] (C8.fnScope (top 63)) (C8.fnBody (top 63)) F_law_met = true := by decide +kernel
/-- _law_home: names _law_plan_here _law_flow _law_rows _law_ends _law_who; def 64 -/
def F_law_home : Fn := ⟨["_law_plan_here", "_law_flow"], 5, (.seq (.set (.name 2) (.call "_law_clock" F_law_clock.run (.cons (.var 0) (.cons (.var 1) .nil)))) (.seq (.setC .val 3 (.comp (.ite (.cmp .eq (.bi .len (.cons (.ix (.var 2) (.var 4)) .nil)) (.bin .add (.bi .len (.cons (.ix (.ix (.var 0) (.var 4)) (.cst (.int (2)))) .nil)) (.cst (.int (1))))) (.ix (.ix (.var 2) (.var 4)) (.neg (.cst (.int (1))))) (.neg (.cst (.int (1))))) (.name 4) (.lst (.cons (.cst (.int (0))) (.cons (.cst (.int (1))) .nil))) .no [4])) (.seq (.ite (.cmp .eq (.ix (.var 3) (.cst (.int (0)))) (.ix (.var 3) (.cst (.int (1))))) (.seq (.ret (.cst .none)) .skip) .skip) (.seq (.ite (.or (.cmp .eq (.ix (.var 3) (.cst (.int (0)))) (.neg (.cst (.int (1))))) (.cmp .eq (.ix (.var 3) (.cst (.int (1)))) (.neg (.cst (.int (1)))))) (.seq (.ret (.ite (.cmp .eq (.ix (.var 3) (.cst (.int (1)))) (.neg (.cst (.int (1))))) (.cst (.int (0))) (.cst (.int (1))))) .skip) .skip) (.seq (.ret (.ite (.cmp .lt (.ix (.var 3) (.cst (.int (0)))) (.ix (.var 3) (.cst (.int (1))))) (.cst (.int (0))) (.cst (.int (1))))) .skip)))))⟩
theorem b_law_home : bodyB false ["_law_plan_here", "_law_flow", "_law_rows", "_law_ends", "_law_who"] (C8.fnScope (top 64)) (C8.fnBody (top 64)) F_law_home = true := by decide +kernel
/-- _law_story: names _law_plan_here _law_flow _law_place _law_kind; def 65 -/
def F_law_story : Fn := ⟨["_law_plan_here", "_law_flow"], 4, (.seq (.ret (.tup (.cons (.bi .tuple (.cons (.comp (.var 3) (.cons (.name 2) (.cons (.name 3) .nil)) (.call "_law_met" F_law_met.run (.cons (.var 0) (.cons (.var 1) .nil))) .no [2, 3]) .nil)) (.cons (.call "_law_home" F_law_home.run (.cons (.var 0) (.cons (.var 1) .nil))) .nil)))) .skip)⟩
theorem b_law_story : bodyB false ["_law_plan_here", "_law_flow", "_law_place", "_law_kind"] (C8.fnScope (top 65)) (C8.fnBody (top 65)) F_law_story = true := by decide +kernel
/-- _law_place_right: names _law_bag_here _law_plan_here _law_flow _law_rows _law_whole _law_turn _law_due _law_who _law_time; def 69 -/
def B_law_place_right_1 : S := (.seq (.par2 .val .val 7 8 (.callB "_law_take" F_law_take.runB 0 (.cons (.cst (.int (2))) .nil)) (.callB "_law_take" F_law_take.runB 0 (.cons (.bin .add (.cst (.int (2))) (.ext maxF (.cons (.bin .add (.ix (.var 3) (.cst (.int (0)))) (.ix (.var 3) (.cst (.int (1))))) .nil))) .nil))) (.seq (.set (.name 6) (.call "_law_lowest" F_law_lowest.run (.cons (.call "_law_there" F_law_there.run (.cons (.var 1) (.cons (.var 2) (.cons (.var 3) (.cons (.var 7) (.cons (.var 8) .nil)))))) (.cons (.var 4) .nil)))) (.seq (.ite (.cmp .ne (.call "place_at" F_place_at.run (.cons (.var 1) (.cons (.var 2) (.cons (.var 7) (.cons (.call "_law_lowest" F_law_lowest.run (.cons (.bin .mul (.var 8) (.ix (.var 2) (.cst (.int (1))))) (.cons (.var 4) .nil))) .nil))))) (.var 6)) (.seq (.ret (.cst (.bool false))) .skip) .skip) .skip)))
def F_law_place_right : Fn := ⟨["_law_bag_here", "_law_plan_here", "_law_flow", "_law_rows"], 9, (.seq (.set (.name 4) (.ix (.call "_law_paces" F_law_paces.run (.cons (.var 1) (.cons (.var 2) .nil))) (.cst (.int (1))))) (.seq (.each (.name 5) (.rng1 (.cst (.int (4)))) (B_law_place_right_1)) (.seq (.ret (.cst (.bool true))) .skip)))⟩
theorem b_law_place_right : bodyB false ["_law_bag_here", "_law_plan_here", "_law_flow", "_law_rows", "_law_whole", "_law_turn", "_law_due", "_law_who", "_law_time"] (C8.fnScope (top 69)) (C8.fnBody (top 69)) F_law_place_right = true := by decide +kernel
/-- law: names _law_script _law_k _law_some _law_bag_here _law_plan_here _law_turn _law_flow _law_due _law_row _law_whole _law_rows _law_time; def 71 -/
def B_law_1 : S := (.seq (.app 7 (.comp (.call "_law_lowest" F_law_lowest.run (.cons (.bin .mul (.var 11) (.ix (.var 6) (.cst (.int (1))))) (.cons (.var 9) .nil))) (.name 11) (.sl (.var 8) (.cst (.int (1))) .no) .no [11])) .skip)
def B_law_2 : S := (.seq (.set (.name 6) (.callB "_law_mixed" F_law_mixed.runB 3 (.cons (.var 4) .nil))) (.seq (.set (.cons (.name 9) (.cons (.name 10) .nil)) (.tup (.cons (.ix (.call "_law_paces" F_law_paces.run (.cons (.var 4) (.cons (.var 6) .nil))) (.cst (.int (1)))) (.cons (.call "_law_clock" F_law_clock.run (.cons (.var 4) (.cons (.var 6) .nil))) .nil)))) (.seq (.own .own 7 (.lst .nil)) (.seq (.each (.name 8) (.var 10) (B_law_1)) (.seq (.frz 7) (.seq (.ite (.or (.cmp .ne (.call "done_at" F_done_at.run (.cons (.var 4) (.cons (.var 6) .nil))) (.tup (.cons (.ix (.var 7) (.cst (.int (0)))) (.cons (.ix (.var 7) (.cst (.int (1)))) .nil)))) (.cmp .ne (.call "meetings" F_meetings.run (.cons (.var 4) (.cons (.var 6) .nil))) (.call "_law_met" F_law_met.run (.cons (.var 4) (.cons (.var 6) .nil))))) (.seq (.ret (.cst (.bool false))) .skip) .skip) (.seq (.ite (.or (.cmp .ne (.call "story" F_story.run (.cons (.var 4) (.cons (.var 6) .nil))) (.call "_law_story" F_law_story.run (.cons (.var 4) (.cons (.var 6) .nil)))) (.not (.callB "_law_place_right" F_law_place_right.runB 3 (.cons (.var 4) (.cons (.var 6) (.cons (.var 10) .nil)))))) (.seq (.ret (.cst (.bool false))) .skip) .skip) .skip)))))))
def B_law_3 : S := (.seq (.own .own 3 (.callF "_law_bag" F_law_bag.runF (.cons (.var 0) (.cons (.var 1) .nil)))) (.seq (.set (.name 4) (.callB "_law_plan" F_law_plan.runB 3 (.cons (.cst (.int (4))) .nil))) (.seq (.each (.name 5) (.rng1 (.cst (.int (7)))) (B_law_2)) (.seq (.ite (.not (.call "_law_refused" F_law_refused.run (.cons (.var 4) .nil))) (.seq (.ret (.cst (.bool false))) .skip) .skip) .skip))))
def F_law : Fn := ⟨["_law_script"], 12, (.seq (.each (.name 1) (.rng1 (.cst (.int (6)))) (B_law_3)) (.seq (.set (.name 2) (.tup (.cons (.tup (.cons (.cst (.int (3))) (.cons (.cst (.int (0))) (.cons (.tup (.cons (.tup (.cons (.cst (.str "to")) (.cons (.cst (.int (3))) .nil))) (.cons (.tup (.cons (.cst (.str "to")) (.cons (.cst (.int (0))) .nil))) .nil))) .nil)))) (.cons (.tup (.cons (.cst (.int (2))) (.cons (.cst (.int (0))) (.cons (.tup (.cons (.tup (.cons (.cst (.str "to")) (.cons (.cst (.int (3))) .nil))) .nil)) .nil)))) .nil)))) (.seq (.ite (.cmp .ne (.call "meetings" F_meetings.run (.cons (.var 2) (.cons (.tup (.cons (.cst (.int (1))) (.cons (.cst (.int (1))) .nil))) .nil))) (.lst (.cons (.tup (.cons (.tup (.cons (.cst (.int (0))) (.cons (.cst (.int (1))) .nil))) (.cons (.cst (.str "touch")) .nil))) (.cons (.tup (.cons (.tup (.cons (.cst (.int (9))) (.cons (.cst (.int (5))) .nil))) (.cons (.cst (.str "pass")) .nil))) .nil)))) (.seq (.ret (.cst (.bool false))) .skip) .skip) (.seq (.ite (.or (.cmp .ne (.call "done_at" F_done_at.run (.cons (.var 2) (.cons (.tup (.cons (.cst (.int (1))) (.cons (.cst (.int (1))) .nil))) .nil))) (.tup (.cons (.lst (.cons (.tup (.cons (.cst (.int (3))) (.cons (.cst (.int (2))) .nil))) (.cons (.tup (.cons (.cst (.int (9))) (.cons (.cst (.int (4))) .nil))) .nil))) (.cons (.lst (.cons (.tup (.cons (.cst (.int (3))) (.cons (.cst (.int (1))) .nil))) .nil)) .nil)))) (.cmp .ne (.call "place_at" F_place_at.run (.cons (.var 2) (.cons (.tup (.cons (.cst (.int (1))) (.cons (.cst (.int (1))) .nil))) (.cons (.cst (.int (0))) (.cons (.tup (.cons (.cst (.int (2))) (.cons (.cst (.int (1))) .nil))) .nil))))) (.tup (.cons (.cst (.int (1))) (.cons (.cst (.int (1))) .nil))))) (.seq (.ret (.cst (.bool false))) .skip) .skip) (.seq (.ret (.and (.cmp .eq (.call "story" F_story.run (.cons (.var 2) (.cons (.tup (.cons (.cst (.int (1))) (.cons (.cst (.int (2))) .nil))) .nil))) (.tup (.cons (.tup (.cons (.cst (.str "touch")) (.cons (.cst (.str "pass")) .nil))) (.cons (.cst (.int (1))) .nil)))) (.cmp .eq (.call "story" F_story.run (.cons (.var 2) (.cons (.tup (.cons (.cst (.int (1))) (.cons (.cst (.int (1))) .nil))) .nil))) (.tup (.cons (.tup (.cons (.cst (.str "touch")) (.cons (.cst (.str "pass")) .nil))) (.cons (.cst (.int (0))) .nil)))))) .skip)))))⟩
theorem b_law : bodyB false ["_law_script", "_law_k", "_law_some", "_law_bag_here", "_law_plan_here", "_law_turn", "_law_flow", "_law_due", "_law_row", "_law_whole", "_law_rows", "_law_time"] (C8.fnScope (top 71)) (C8.fnBody (top 71)) F_law = true := by decide +kernel
end K02
set_option Elab.async false
set_option linter.all false
set_option maxRecDepth 1000000
set_option maxHeartbeats 0
namespace K02
open PySem PySem.Spec PyProof.Rows L2
def fn : List He.DefD := [dd "is_plain" 13, dd "is_whole" 14, dd "is_leg" 15, dd "is_boat" 16, dd "is_plan" 17, dd "divisor_of" 18, dd "lowest" 19, dd "is_fraction" 20, dd "slowest" 21, dd "is_below" 22, dd "need_plan" 23, dd "need_flow" 24, dd "need_both" 25, dd "need_number" 26, dd "place_ahead" 27, dd "plus" 29, dd "times" 30, dd "minus" 31, dd "order" 32, dd "pace_of" 33, dd "one_more" 34, dd "clocks" 35, dd "done_at" 36, dd "place_then" 37, dd "place_at" 38, dd "marks_of" 39, dd "crossed" 40, dd "sign_of" 41, dd "met" 42, dd "meetings" 43, dd "home_at" 44, dd "story_at" 45, dd "story" 46, dd "_law_cell" 48, dd "_law_draws" 49, dd "_law_bag" 50, dd "_law_take" 51, dd "_law_choice" 52, dd "_law_lowest" 53, dd "_law_legs" 54, dd "_law_plan" 55, dd "_law_spots" 56, dd "_law_paces" 57, dd "_law_pace" 58, dd "_law_clock" 59, dd "_law_there" 60, dd "_law_gaps" 61, dd "_law_stretches" 62, dd "_law_met" 63, dd "_law_home" 64, dd "_law_story" 65, dd "_law_mixed" 66, dd "_law_named_error" 67, dd "_law_error" 68, dd "_law_place_right" 69, dd "_law_refused" 70, dd "law" 71]
def fa : List He.Fa := [.glo "is_plain", .glo "is_whole", .glo "is_leg", .glo "is_boat", .glo "is_plan", .glo "divisor_of", .glo "lowest", .glo "is_fraction", .glo "slowest", .glo "is_below", .glo "need_plan", .glo "need_flow", .glo "need_both", .glo "need_number", .glo "place_ahead", .glo "plus", .glo "times", .glo "minus", .glo "order", .glo "pace_of", .glo "one_more", .glo "clocks", .glo "done_at", .glo "place_then", .glo "place_at", .glo "marks_of", .glo "crossed", .glo "sign_of", .glo "met", .glo "meetings", .glo "home_at", .glo "story_at", .glo "story", .glo "_law_cell", .glo "_law_draws", .glo "_law_bag", .glo "_law_take", .glo "_law_choice", .glo "_law_lowest", .glo "_law_legs", .glo "_law_plan", .glo "_law_spots", .glo "_law_paces", .glo "_law_pace", .glo "_law_clock", .glo "_law_there", .glo "_law_gaps", .glo "_law_stretches", .glo "_law_met", .glo "_law_home", .glo "_law_story", .glo "_law_mixed", .glo "_law_named_error", .glo "_law_error", .glo "_law_place_right", .glo "_law_refused", .glo "law", .glo "StreamError", .glo "InvalidBoat", .glo "InvalidPlan", .glo "InvalidFlow", .glo "InvalidNumber", .glo "InvalidFacts", .glo "InvalidText", .glo "Unlike", .glo "NoFlow", .glo "NothingToUndo", .free "len", .free "abs", .free "max", .free "min", .free "int", .free "str", .free "tuple", .free "list", .free "all", .free "any", .free "isinstance", .free "range", .free "enumerate", .free "zip", .free "bool", .free "sorted", .free "set", .free "ValueError", .int "TOP_PLACE" 9, .exc "InvalidBoat", .exc "InvalidPlan", .exc "InvalidFlow", .exc "InvalidNumber", .exc "InvalidFacts", .exc "InvalidText", .exc "Unlike", .exc "NoFlow", .exc "NothingToUndo", .exm "InvalidBoat" "StreamError" true, .exm "InvalidPlan" "StreamError" true, .exm "InvalidFlow" "StreamError" true, .exm "InvalidNumber" "StreamError" true, .exm "InvalidFacts" "StreamError" true, .exm "InvalidText" "StreamError" true, .exm "Unlike" "StreamError" true, .exm "NoFlow" "StreamError" true, .exm "NothingToUndo" "StreamError" true]
def tfs : List Str := ["_law_refused"]
def ex (K : PySem.W.Frag) : Bool := DV.errB K && DV.tabD K tfs
abbrev R : PySem.W.OpenRow := PySem.W.OpenLaw.row PySem.Challenge.rw_anystream_k02_whole_boats_at_told_flows
def tf : List He.Defn := tfs.map fun x => (x, none)
abbrev hk : PySem.W.Hook := He.hookX 4 fa fn [] tf ex
def ob (s : PySem.W.SharedT) : He.AlX := He.obsX 4 fa fn [] tf ex (HandSHeadRun.getT s)
theorem ob_eq (s : PySem.W.SharedT) : ob s = hk.obs s.abs := He.obsX_eq (HandSHeadRun.getT_eq s)
def loose0 : List Str := [("StreamError" : Str), ("InvalidBoat" : Str), ("InvalidPlan" : Str), ("InvalidFlow" : Str), ("InvalidNumber" : Str), ("InvalidFacts" : Str), ("InvalidText" : Str), ("Unlike" : Str), ("NoFlow" : Str), ("NothingToUndo" : Str), ("TOP_PLACE" : Str), ("is_plain" : Str), ("is_whole" : Str), ("is_leg" : Str), ("is_boat" : Str), ("is_plan" : Str), ("divisor_of" : Str), ("lowest" : Str), ("is_fraction" : Str), ("slowest" : Str), ("is_below" : Str), ("need_plan" : Str), ("need_flow" : Str), ("need_both" : Str), ("need_number" : Str), ("place_ahead" : Str), ("plus" : Str), ("times" : Str), ("minus" : Str), ("order" : Str)]
def loose1 : List Str := [("pace_of" : Str), ("one_more" : Str), ("clocks" : Str), ("done_at" : Str), ("place_then" : Str), ("place_at" : Str), ("marks_of" : Str), ("crossed" : Str), ("sign_of" : Str), ("met" : Str), ("meetings" : Str), ("home_at" : Str), ("story_at" : Str), ("story" : Str), ("_law_cell" : Str), ("_law_draws" : Str), ("_law_bag" : Str), ("_law_take" : Str), ("_law_choice" : Str), ("_law_lowest" : Str), ("_law_legs" : Str), ("_law_plan" : Str), ("_law_spots" : Str), ("_law_paces" : Str), ("_law_pace" : Str), ("_law_clock" : Str), ("_law_there" : Str), ("_law_gaps" : Str), ("_law_stretches" : Str), ("_law_met" : Str)]
def loose2 : List Str := [("_law_home" : Str), ("_law_story" : Str), ("_law_mixed" : Str), ("_law_named_error" : Str), ("_law_error" : Str), ("_law_place_right" : Str), ("_law_refused" : Str)]
def loose : List Str := loose0 ++ loose1 ++ loose2
theorem run (w : World) : HandSHeadRun.RunEq R (PySem.W.view R.prog [71]) hk ob 8000 loose w := by
  intro os
  kernel_rfl
end K02
set_option Elab.async false
set_option linter.all false
set_option maxRecDepth 1000000
set_option maxHeartbeats 4000000
namespace K02
open PySem PySem.Spec PyProof.Rows L2 DV HotX L2H
section
variable {gd : Gd}
theorem df_named : Df fa fn "_law_named_error" (dd "_law_named_error" 67) ["_law_e", "_law_some", "_law_words", "_law_word", "_law_good"] ⟨["_law_e"], 5, .skip⟩ :=
  ⟨by simp [fn], rfl, fa_mem (by rfl), rfl, rfl, ⟨rfl, rfl, rfl, by decide +kernel, rfl, by decide +kernel, by decide +kernel⟩, fun _ _ _ _ _ _ us hl => match us, hl with | [_], _ => rfl⟩
theorem named (m : Md fa fn gd) (h : errB gd.K = true) (k : Nat) : NamedF gd k "_law_named_error" errTxts := by
  obtain ⟨fd, F, B⟩ := m.fd df_named
  obtain ⟨oc, od, dV, kV, doc, pm, an, cdv, ct, osl, rfl, lk, hcd, _, _⟩ := F.ex
  refine ⟨_, _, _, _, _, dV, kV, doc, pm, cdv, ct, oc, an, od, osl, _, _, m.glo df_named.glo, F.kp, lk, hcd, df_named.S, rfl, B, fun mm bits hl C hm A outer s H Q E a oe hot hz hf hq => ?_⟩
  obtain ⟨hx, rfl⟩ := errTxts_of hl
  have hC : C = He.ga gd.K mm := by
    have hg : He.Fa.glo mm ∈ fa := by
      simp only [errNames, List.mem_cons, List.not_mem_nil, or_false] at hx
      rcases hx with rfl | rfl | rfl | rfl | rfl | rfl | rfl | rfl | rfl <;> exact fa_mem (by rfl)
    have := m.glo hg
    rw [hm] at this; cases this; rfl
  subst hC
  have cl : ∀ {y : Str}, y ∈ errNames → He.Fa.glo y ∈ fa → Gl (cxH (L2N.CX gd.prog gd.w) gd.prog gd.w gd.K gd.mg gd.base ["_law_e", "_law_some", "_law_words", "_law_word", "_law_good"] "_law_named_error" (C8.fnScope (top 67)) (He.ga gd.K "_law_named_error") cdv A outer s H E (a, oe)) y → (y == ("__debug__" : Str)) = false → ClsE (cxH (L2N.CX gd.prog gd.w) gd.prog gd.w gd.K gd.mg gd.base ["_law_e", "_law_some", "_law_words", "_law_word", "_law_good"] "_law_named_error" (C8.fnScope (top 67)) (He.ga gd.K "_law_named_error") cdv A outer s H E (a, oe)) (He.ga gd.K mm) y (decide (mm = y)) := fun hy hf hg hd => clsE_of m h rfl rfl hx hy hf hg hd
  refine ⟨_, named_body (p79 := ⟨0, 0, 0, 0⟩) (p80 := ⟨0, 0, 0, 0⟩) (xy := 0) (k5 := 0) (X := cxH (L2N.CX gd.prog gd.w) gd.prog gd.w gd.K gd.mg gd.base ["_law_e", "_law_some", "_law_words", "_law_word", "_law_good"] "_law_named_error" (C8.fnScope (top 67)) (He.ga gd.K "_law_named_error") cdv A outer s H E (a, oe)) hot List.mem_cons_self hz hf (excC_of h hx) rfl df_named.S.nd (fun _ => rfl) rfl rfl rfl (by decide +kernel) rfl (m.free _ (by decide)) rfl (m.free _ (by decide))
    (cl (y := "InvalidBoat") (by decide) (fa_mem (by rfl)) rfl (by decide)) (cl (y := "InvalidPlan") (by decide) (fa_mem (by rfl)) rfl (by decide)) (cl (y := "InvalidFlow") (by decide) (fa_mem (by rfl)) rfl (by decide)) (cl (y := "InvalidNumber") (by decide) (fa_mem (by rfl)) rfl (by decide)) (cl (y := "InvalidFacts") (by decide) (fa_mem (by rfl)) rfl (by decide)) (cl (y := "InvalidText") (by decide) (fa_mem (by rfl)) rfl (by decide)) (cl (y := "Unlike") (by decide) (fa_mem (by rfl)) rfl (by decide)) (cl (y := "NoFlow") (by decide) (fa_mem (by rfl)) rfl (by decide)) (cl (y := "NothingToUndo") (by decide) (fa_mem (by rfl)) rfl (by decide))
    (clsV_of h rfl hx rfl (He.free_ok m.X m.G (m.c.facts (f := .free "ValueError") (fa_mem (by rfl))))) (by rfl) (by rfl) (by rfl) (by first | exact .inl rfl | exact .inr rfl) (by first | exact .inl rfl | exact .inr rfl) (by rfl) (by rfl), rfl, rfl, fun H' sm => ?_⟩
  exact hq H' sm
theorem d_err : Df fa fn "_law_error" (dd "_law_error" 68) ["_law_call", "_law_e"] ⟨["_law_call"], 2, .skip⟩ :=
  ⟨by simp [fn], rfl, fa_mem (by rfl), rfl, rfl, ⟨rfl, rfl, rfl, by decide +kernel, rfl, by decide +kernel, by decide +kernel⟩, fun _ _ _ _ _ _ us hl => match us, hl with | [_], _ => rfl⟩
theorem errF (m : Md fa fn gd) : ErrF gd "_law_error" "_law_named_error" errTxts := by
  obtain ⟨fd, F, B⟩ := m.fd d_err
  obtain ⟨oc, od, dV, kV, doc, pm, an, cdv, ct, osl, rfl, lk, hcd, _, _⟩ := F.ex
  refine ⟨_, _, _, dV, kV, doc, pm, cdv, ct, oc, an, od, osl, "_law_call", "_law_e", "StreamError", _, _, _, _, _, _, _, _, _, _, _, _, _, _, m.glo d_err.glo, F.kp, lk, hcd, B, d_err.S, rfl, rfl, rfl, rfl, m.glo (fa_mem (by rfl)), by decide, by decide, by decide, fun mm bits hl C hm => ?_⟩
  obtain ⟨hx, rfl⟩ := errTxts_of hl
  simp only [errNames, List.mem_cons, List.not_mem_nil, or_false] at hx
  have key : ∀ {y : Str}, He.Fa.glo y ∈ fa → He.Fa.exm y "StreamError" true ∈ fa → mm = y → PySem.W.exmOne gd.K (.ref C) (.ref (He.ga gd.K "StreamError")) = some true := fun h1 h2 e => by
    subst e
    have := m.glo h1
    rw [hm] at this; cases this
    exact He.exm_ok (m.c.facts h2)
  rcases hx with h | h | h | h | h | h | h | h | h <;> exact key (fa_mem (by rfl)) (fa_mem (by rfl)) h
theorem frees : ∀ x ∈ builtinNames, He.Fa.free x ∈ fa := by
  intro x hx
  simp only [builtinNames, List.mem_cons, List.not_mem_nil, or_false] at hx
  rcases hx with rfl | rfl | rfl | rfl | rfl | rfl | rfl | rfl | rfl | rfl | rfl | rfl | rfl | rfl | rfl | rfl | rfl <;> exact fa_mem (by rfl)
theorem d_law_cell : Df fa fn "_law_cell" (dd "_law_cell" 48) ["_law_script", "_law_k"] F_law_cell := ⟨List.mem_of_getElem? (i := 33) rfl, rfl, fa_mem (by rfl), rfl, rfl, ⟨rfl, rfl, rfl, by decide +kernel, rfl, show ∀ x ∈ (["_law_script", "_law_k"] : List Str), _ ∨ _ by decide +kernel, by decide +kernel⟩, fun _ _ _ _ _ _ us hl => match us, hl with | [_, _], _ => rfl⟩
theorem o_law_cell (m : Md fa fn gd) (e : errB gd.K = true) : okS 0 gd F_law_cell.body := by
  dsimp only [F_law_cell, okS, okE]
  repeat' apply And.intro
  all_goals first | trivial
theorem c_law_cell (m : Md fa fn gd) (e : errB gd.K = true) : CallC gd 1 "_law_cell" (spD gd.K gd.mg gd.T F_law_cell.run) := m.call d_law_cell b_law_cell (o_law_cell m e)
theorem d_law_draws : Df fa fn "_law_draws" (dd "_law_draws" 49) ["_law_script", "_law_k", "_law_many", "_law_base", "_law_primes", "_law_cell_here", "_law_rest", "_law_row", "_law_j", "_law_mash"] F_law_draws := ⟨List.mem_of_getElem? (i := 34) rfl, rfl, fa_mem (by rfl), rfl, rfl, ⟨rfl, rfl, rfl, by decide +kernel, rfl, show ∀ x ∈ (["_law_script", "_law_k", "_law_many", "_law_base"] : List Str), _ ∨ _ by decide +kernel, by decide +kernel⟩, fun _ _ _ _ _ _ us hl => match us, hl with | [_, _, _, _], _ => rfl⟩
theorem o_law_draws (m : Md fa fn gd) (e : errB gd.K = true) : okS 1 gd F_law_draws.body := by
  dsimp only [F_law_draws, B_law_draws_1, okS, okE]
  repeat' apply And.intro
  all_goals first | trivial | with_reducible exact (c_law_cell m e).mono (by decide)
theorem c_law_draws (m : Md fa fn gd) (e : errB gd.K = true) : CallC gd 2 "_law_draws" (spF gd.K gd.mg gd.T F_law_draws.runF) := m.callF d_law_draws b_law_draws (o_law_draws m e)
theorem d_law_bag : Df fa fn "_law_bag" (dd "_law_bag" 50) ["_law_script", "_law_k"] F_law_bag := ⟨List.mem_of_getElem? (i := 35) rfl, rfl, fa_mem (by rfl), rfl, rfl, ⟨rfl, rfl, rfl, by decide +kernel, rfl, show ∀ x ∈ (["_law_script", "_law_k"] : List Str), _ ∨ _ by decide +kernel, by decide +kernel⟩, fun _ _ _ _ _ _ us hl => match us, hl with | [_, _], _ => rfl⟩
theorem o_law_bag (m : Md fa fn gd) (e : errB gd.K = true) : okS 2 gd F_law_bag.body := by
  dsimp only [F_law_bag, okS, okE]
  repeat' apply And.intro
  all_goals first | trivial | with_reducible exact (c_law_draws m e).mono (by decide)
theorem c_law_bag (m : Md fa fn gd) (e : errB gd.K = true) : CallC gd 3 "_law_bag" (spF gd.K gd.mg gd.T F_law_bag.runF) := m.callF d_law_bag b_law_bag (o_law_bag m e)
theorem d_law_take : Df fa fn "_law_take" (dd "_law_take" 51) ["_law_bag_here", "_law_many", "_law_draw"] F_law_take := ⟨List.mem_of_getElem? (i := 36) rfl, rfl, fa_mem (by rfl), rfl, rfl, ⟨rfl, rfl, rfl, by decide +kernel, rfl, show ∀ x ∈ (["_law_bag_here", "_law_many"] : List Str), _ ∨ _ by decide +kernel, by decide +kernel⟩, fun _ _ _ _ _ _ us hl => match us, hl with | [_, _], _ => rfl⟩
theorem o_law_take (m : Md fa fn gd) (e : errB gd.K = true) : okS 0 gd F_law_take.body := by
  dsimp only [F_law_take, okS, okE]
  repeat' apply And.intro
  all_goals first | trivial
theorem c_law_take (m : Md fa fn gd) (e : errB gd.K = true) : CallC gd 1 "_law_take" (spB gd.K gd.mg gd.T F_law_take.runB) := m.callB d_law_take b_law_take (o_law_take m e)
theorem d_law_legs : Df fa fn "_law_legs" (dd "_law_legs" 54) ["_law_bag_here", "_law_many", "_law_others", "_law_start", "_law_turn", "_law_found", "_law_spot", "_law_way"] F_law_legs := ⟨List.mem_of_getElem? (i := 39) rfl, rfl, fa_mem (by rfl), rfl, rfl, ⟨rfl, rfl, rfl, by decide +kernel, rfl, show ∀ x ∈ (["_law_bag_here", "_law_many", "_law_others", "_law_start"] : List Str), _ ∨ _ by decide +kernel, by decide +kernel⟩, fun _ _ _ _ _ _ us hl => match us, hl with | [_, _, _, _], _ => rfl⟩
theorem o_law_legs (m : Md fa fn gd) (e : errB gd.K = true) : okS 1 gd F_law_legs.body := by
  dsimp only [F_law_legs, B_law_legs_1, okS, okE]
  repeat' apply And.intro
  all_goals first | trivial | with_reducible exact (c_law_take m e).mono (by decide)
theorem c_law_legs (m : Md fa fn gd) (e : errB gd.K = true) : CallC gd 2 "_law_legs" (spB gd.K gd.mg gd.T F_law_legs.runB) := m.callB d_law_legs b_law_legs (o_law_legs m e)
theorem d_law_plan : Df fa fn "_law_plan" (dd "_law_plan" 55) ["_law_bag_here", "_law_peak", "_law_first_so", "_law_mine", "_law_theirs", "_law_one", "_law_other"] F_law_plan := ⟨List.mem_of_getElem? (i := 40) rfl, rfl, fa_mem (by rfl), rfl, rfl, ⟨rfl, rfl, rfl, by decide +kernel, rfl, show ∀ x ∈ (["_law_bag_here", "_law_peak"] : List Str), _ ∨ _ by decide +kernel, by decide +kernel⟩, fun _ _ _ _ _ _ us hl => match us, hl with | [_, _], _ => rfl⟩
theorem o_law_plan (m : Md fa fn gd) (e : errB gd.K = true) : okS 2 gd F_law_plan.body := by
  dsimp only [F_law_plan, okS, okE]
  repeat' apply And.intro
  all_goals first | trivial | with_reducible exact (c_law_take m e).mono (by decide) | with_reducible exact (c_law_legs m e).mono (by decide)
theorem c_law_plan (m : Md fa fn gd) (e : errB gd.K = true) : CallC gd 3 "_law_plan" (spB gd.K gd.mg gd.T F_law_plan.runB) := m.callB d_law_plan b_law_plan (o_law_plan m e)
theorem d_is_plain : Df fa fn "is_plain" (dd "is_plain" 13) ["value"] F_is_plain := ⟨List.mem_of_getElem? (i := 0) rfl, rfl, fa_mem (by rfl), rfl, rfl, ⟨rfl, rfl, rfl, by decide +kernel, rfl, show ∀ x ∈ (["value"] : List Str), _ ∨ _ by decide +kernel, by decide +kernel⟩, fun _ _ _ _ _ _ us hl => match us, hl with | [_], _ => rfl⟩
theorem o_is_plain (m : Md fa fn gd) (e : errB gd.K = true) : okS 0 gd F_is_plain.body := by
  dsimp only [F_is_plain, okS, okE]
  repeat' apply And.intro
  all_goals first | trivial | with_reducible exact m.free _ (by decide) | decide +kernel
theorem c_is_plain (m : Md fa fn gd) (e : errB gd.K = true) : CallC gd 1 "is_plain" (spD gd.K gd.mg gd.T F_is_plain.run) := m.call d_is_plain b_is_plain (o_is_plain m e)
theorem d_is_whole : Df fa fn "is_whole" (dd "is_whole" 14) ["value", "low", "high"] F_is_whole := ⟨List.mem_of_getElem? (i := 1) rfl, rfl, fa_mem (by rfl), rfl, rfl, ⟨rfl, rfl, rfl, by decide +kernel, rfl, show ∀ x ∈ (["value", "low", "high"] : List Str), _ ∨ _ by decide +kernel, by decide +kernel⟩, fun _ _ _ _ _ _ us hl => match us, hl with | [_, _, _], _ => rfl⟩
theorem o_is_whole (m : Md fa fn gd) (e : errB gd.K = true) : okS 1 gd F_is_whole.body := by
  dsimp only [F_is_whole, okS, okE]
  repeat' apply And.intro
  all_goals first | trivial | with_reducible exact (c_is_plain m e).mono (by decide)
theorem c_is_whole (m : Md fa fn gd) (e : errB gd.K = true) : CallC gd 2 "is_whole" (spD gd.K gd.mg gd.T F_is_whole.run) := m.call d_is_whole b_is_whole (o_is_whole m e)
theorem d_is_leg : Df fa fn "is_leg" (dd "is_leg" 15) ["value"] F_is_leg := ⟨List.mem_of_getElem? (i := 2) rfl, rfl, fa_mem (by rfl), rfl, rfl, ⟨rfl, rfl, rfl, by decide +kernel, rfl, show ∀ x ∈ (["value"] : List Str), _ ∨ _ by decide +kernel, by decide +kernel⟩, fun _ _ _ _ _ _ us hl => match us, hl with | [_], _ => rfl⟩
theorem o_is_leg (m : Md fa fn gd) (e : errB gd.K = true) : okS 2 gd F_is_leg.body := by
  dsimp only [F_is_leg, okS, okE]
  repeat' apply And.intro
  all_goals first | trivial | with_reducible exact (c_is_whole m e).mono (by decide) | exact m.int (fa_mem (by decide +kernel)) | with_reducible exact m.free _ (by decide) | decide +kernel
theorem c_is_leg (m : Md fa fn gd) (e : errB gd.K = true) : CallC gd 3 "is_leg" (spD gd.K gd.mg gd.T F_is_leg.run) := m.call d_is_leg b_is_leg (o_is_leg m e)
theorem d_is_boat : Df fa fn "is_boat" (dd "is_boat" 16) ["value", "speed", "place", "legs", "word", "number", "leg"] F_is_boat := ⟨List.mem_of_getElem? (i := 3) rfl, rfl, fa_mem (by rfl), rfl, rfl, ⟨rfl, rfl, rfl, by decide +kernel, rfl, show ∀ x ∈ (["value"] : List Str), _ ∨ _ by decide +kernel, by decide +kernel⟩, fun _ _ _ _ _ _ us hl => match us, hl with | [_], _ => rfl⟩
theorem o_is_boat (m : Md fa fn gd) (e : errB gd.K = true) : okS 3 gd F_is_boat.body := by
  dsimp only [F_is_boat, B_is_boat_1, okS, okE]
  repeat' apply And.intro
  all_goals first | trivial | with_reducible exact (c_is_whole m e).mono (by decide) | with_reducible exact (c_is_leg m e).mono (by decide) | exact m.int (fa_mem (by decide +kernel)) | with_reducible exact m.free _ (by decide) | decide +kernel
theorem c_is_boat (m : Md fa fn gd) (e : errB gd.K = true) : CallC gd 4 "is_boat" (spD gd.K gd.mg gd.T F_is_boat.run) := m.call d_is_boat b_is_boat (o_is_boat m e)
theorem d_is_plan : Df fa fn "is_plan" (dd "is_plan" 17) ["value", "boat", "other", "word", "number"] F_is_plan := ⟨List.mem_of_getElem? (i := 4) rfl, rfl, fa_mem (by rfl), rfl, rfl, ⟨rfl, rfl, rfl, by decide +kernel, rfl, show ∀ x ∈ (["value"] : List Str), _ ∨ _ by decide +kernel, by decide +kernel⟩, fun _ _ _ _ _ _ us hl => match us, hl with | [_], _ => rfl⟩
theorem o_is_plan (m : Md fa fn gd) (e : errB gd.K = true) : okS 4 gd F_is_plan.body := by
  dsimp only [F_is_plan, B_is_plan_1, okS, okE]
  repeat' apply And.intro
  all_goals first | trivial | with_reducible exact (c_is_boat m e).mono (by decide) | with_reducible exact m.free _ (by decide) | decide +kernel
theorem c_is_plan (m : Md fa fn gd) (e : errB gd.K = true) : CallC gd 5 "is_plan" (spD gd.K gd.mg gd.T F_is_plan.run) := m.call d_is_plan b_is_plan (o_is_plan m e)
theorem d_need_plan : Df fa fn "need_plan" (dd "need_plan" 23) ["plan"] F_need_plan := ⟨List.mem_of_getElem? (i := 10) rfl, rfl, fa_mem (by rfl), rfl, rfl, ⟨rfl, rfl, rfl, by decide +kernel, rfl, show ∀ x ∈ (["plan"] : List Str), _ ∨ _ by decide +kernel, by decide +kernel⟩, fun _ _ _ _ _ _ us hl => match us, hl with | [_], _ => rfl⟩
theorem o_need_plan (m : Md fa fn gd) (e : errB gd.K = true) : okS 5 gd F_need_plan.body := by
  dsimp only [F_need_plan, okS, okE]
  repeat' apply And.intro
  all_goals first | trivial | with_reducible exact (c_is_plan m e).mono (by decide) | exact m.exc (fa_mem (by decide +kernel)) (fa_mem (by decide +kernel))
theorem c_need_plan (m : Md fa fn gd) (e : errB gd.K = true) : CallC gd 6 "need_plan" (spD gd.K gd.mg gd.T F_need_plan.run) := m.call d_need_plan b_need_plan (o_need_plan m e)
theorem d_divisor_of : Df fa fn "divisor_of" (dd "divisor_of" 18) ["one", "other"] F_divisor_of := ⟨List.mem_of_getElem? (i := 5) rfl, rfl, fa_mem (by rfl), rfl, rfl, ⟨rfl, rfl, rfl, by decide +kernel, rfl, show ∀ x ∈ (["one", "other"] : List Str), _ ∨ _ by decide +kernel, by decide +kernel⟩, fun _ _ _ _ _ _ us hl => match us, hl with | [_, _], _ => rfl⟩
theorem o_divisor_of (m : Md fa fn gd) (e : errB gd.K = true) : okS 0 gd F_divisor_of.body := by
  dsimp only [F_divisor_of, B_divisor_of_1, okS, okE]
  repeat' apply And.intro
  all_goals first | trivial
theorem c_divisor_of (m : Md fa fn gd) (e : errB gd.K = true) : CallC gd 1 "divisor_of" (spD gd.K gd.mg gd.T F_divisor_of.run) := m.call d_divisor_of b_divisor_of (o_divisor_of m e)
theorem d_is_fraction : Df fa fn "is_fraction" (dd "is_fraction" 20) ["value"] F_is_fraction := ⟨List.mem_of_getElem? (i := 7) rfl, rfl, fa_mem (by rfl), rfl, rfl, ⟨rfl, rfl, rfl, by decide +kernel, rfl, show ∀ x ∈ (["value"] : List Str), _ ∨ _ by decide +kernel, by decide +kernel⟩, fun _ _ _ _ _ _ us hl => match us, hl with | [_], _ => rfl⟩
theorem o_is_fraction (m : Md fa fn gd) (e : errB gd.K = true) : okS 1 gd F_is_fraction.body := by
  dsimp only [F_is_fraction, okS, okE]
  repeat' apply And.intro
  all_goals first | trivial | with_reducible exact (c_is_plain m e).mono (by decide) | with_reducible exact (c_divisor_of m e).mono (by decide) | with_reducible exact m.free _ (by decide) | decide +kernel
theorem c_is_fraction (m : Md fa fn gd) (e : errB gd.K = true) : CallC gd 2 "is_fraction" (spD gd.K gd.mg gd.T F_is_fraction.run) := m.call d_is_fraction b_is_fraction (o_is_fraction m e)
theorem d_is_below : Df fa fn "is_below" (dd "is_below" 22) ["value", "speed"] F_is_below := ⟨List.mem_of_getElem? (i := 9) rfl, rfl, fa_mem (by rfl), rfl, rfl, ⟨rfl, rfl, rfl, by decide +kernel, rfl, show ∀ x ∈ (["value", "speed"] : List Str), _ ∨ _ by decide +kernel, by decide +kernel⟩, fun _ _ _ _ _ _ us hl => match us, hl with | [_, _], _ => rfl⟩
theorem o_is_below (m : Md fa fn gd) (e : errB gd.K = true) : okS 2 gd F_is_below.body := by
  dsimp only [F_is_below, okS, okE]
  repeat' apply And.intro
  all_goals first | trivial | with_reducible exact (c_is_fraction m e).mono (by decide)
theorem c_is_below (m : Md fa fn gd) (e : errB gd.K = true) : CallC gd 3 "is_below" (spD gd.K gd.mg gd.T F_is_below.run) := m.call d_is_below b_is_below (o_is_below m e)
theorem d_slowest : Df fa fn "slowest" (dd "slowest" 21) ["plan"] F_slowest := ⟨List.mem_of_getElem? (i := 8) rfl, rfl, fa_mem (by rfl), rfl, rfl, ⟨rfl, rfl, rfl, by decide +kernel, rfl, show ∀ x ∈ (["plan"] : List Str), _ ∨ _ by decide +kernel, by decide +kernel⟩, fun _ _ _ _ _ _ us hl => match us, hl with | [_], _ => rfl⟩
theorem o_slowest (m : Md fa fn gd) (e : errB gd.K = true) : okS 0 gd F_slowest.body := by
  dsimp only [F_slowest, okS, okE]
  repeat' apply And.intro
  all_goals first | trivial
theorem c_slowest (m : Md fa fn gd) (e : errB gd.K = true) : CallC gd 1 "slowest" (spD gd.K gd.mg gd.T F_slowest.run) := m.call d_slowest b_slowest (o_slowest m e)
theorem d_need_flow : Df fa fn "need_flow" (dd "need_flow" 24) ["plan", "flow"] F_need_flow := ⟨List.mem_of_getElem? (i := 11) rfl, rfl, fa_mem (by rfl), rfl, rfl, ⟨rfl, rfl, rfl, by decide +kernel, rfl, show ∀ x ∈ (["plan", "flow"] : List Str), _ ∨ _ by decide +kernel, by decide +kernel⟩, fun _ _ _ _ _ _ us hl => match us, hl with | [_, _], _ => rfl⟩
theorem o_need_flow (m : Md fa fn gd) (e : errB gd.K = true) : okS 3 gd F_need_flow.body := by
  dsimp only [F_need_flow, okS, okE]
  repeat' apply And.intro
  all_goals first | trivial | with_reducible exact (c_is_below m e).mono (by decide) | with_reducible exact (c_slowest m e).mono (by decide) | exact m.exc (fa_mem (by decide +kernel)) (fa_mem (by decide +kernel))
theorem c_need_flow (m : Md fa fn gd) (e : errB gd.K = true) : CallC gd 4 "need_flow" (spD gd.K gd.mg gd.T F_need_flow.run) := m.call d_need_flow b_need_flow (o_need_flow m e)
theorem d_need_both : Df fa fn "need_both" (dd "need_both" 25) ["plan", "flow"] F_need_both := ⟨List.mem_of_getElem? (i := 12) rfl, rfl, fa_mem (by rfl), rfl, rfl, ⟨rfl, rfl, rfl, by decide +kernel, rfl, show ∀ x ∈ (["plan", "flow"] : List Str), _ ∨ _ by decide +kernel, by decide +kernel⟩, fun _ _ _ _ _ _ us hl => match us, hl with | [_, _], _ => rfl⟩
theorem o_need_both (m : Md fa fn gd) (e : errB gd.K = true) : okS 6 gd F_need_both.body := by
  dsimp only [F_need_both, okS, okE]
  repeat' apply And.intro
  all_goals first | trivial | with_reducible exact (c_need_plan m e).mono (by decide) | with_reducible exact (c_need_flow m e).mono (by decide)
theorem c_need_both (m : Md fa fn gd) (e : errB gd.K = true) : CallC gd 7 "need_both" (spD gd.K gd.mg gd.T F_need_both.run) := m.call d_need_both b_need_both (o_need_both m e)
theorem d_place_ahead : Df fa fn "place_ahead" (dd "place_ahead" 27) ["boat", "at", "places", "word", "number"] F_place_ahead := ⟨List.mem_of_getElem? (i := 14) rfl, rfl, fa_mem (by rfl), rfl, rfl, ⟨rfl, rfl, rfl, by decide +kernel, rfl, show ∀ x ∈ (["boat", "at"] : List Str), _ ∨ _ by decide +kernel, by decide +kernel⟩, fun _ _ _ _ _ _ us hl => match us, hl with | [_, _], _ => rfl⟩
theorem o_place_ahead (m : Md fa fn gd) (e : errB gd.K = true) : okS 0 gd F_place_ahead.body := by
  dsimp only [F_place_ahead, okS, okE]
  repeat' apply And.intro
  all_goals first | trivial
theorem c_place_ahead (m : Md fa fn gd) (e : errB gd.K = true) : CallC gd 1 "place_ahead" (spD gd.K gd.mg gd.T F_place_ahead.run) := m.call d_place_ahead b_place_ahead (o_place_ahead m e)
theorem d_lowest : Df fa fn "lowest" (dd "lowest" 19) ["top", "below", "divisor"] F_lowest := ⟨List.mem_of_getElem? (i := 6) rfl, rfl, fa_mem (by rfl), rfl, rfl, ⟨rfl, rfl, rfl, by decide +kernel, rfl, show ∀ x ∈ (["top", "below"] : List Str), _ ∨ _ by decide +kernel, by decide +kernel⟩, fun _ _ _ _ _ _ us hl => match us, hl with | [_, _], _ => rfl⟩
theorem o_lowest (m : Md fa fn gd) (e : errB gd.K = true) : okS 1 gd F_lowest.body := by
  dsimp only [F_lowest, okS, okE]
  repeat' apply And.intro
  all_goals first | trivial | with_reducible exact (c_divisor_of m e).mono (by decide)
theorem c_lowest (m : Md fa fn gd) (e : errB gd.K = true) : CallC gd 2 "lowest" (spD gd.K gd.mg gd.T F_lowest.run) := m.call d_lowest b_lowest (o_lowest m e)
theorem d_minus : Df fa fn "minus" (dd "minus" 31) ["one", "other"] F_minus := ⟨List.mem_of_getElem? (i := 17) rfl, rfl, fa_mem (by rfl), rfl, rfl, ⟨rfl, rfl, rfl, by decide +kernel, rfl, show ∀ x ∈ (["one", "other"] : List Str), _ ∨ _ by decide +kernel, by decide +kernel⟩, fun _ _ _ _ _ _ us hl => match us, hl with | [_, _], _ => rfl⟩
theorem o_minus (m : Md fa fn gd) (e : errB gd.K = true) : okS 2 gd F_minus.body := by
  dsimp only [F_minus, okS, okE]
  repeat' apply And.intro
  all_goals first | trivial | with_reducible exact (c_lowest m e).mono (by decide)
theorem c_minus (m : Md fa fn gd) (e : errB gd.K = true) : CallC gd 3 "minus" (spD gd.K gd.mg gd.T F_minus.run) := m.call d_minus b_minus (o_minus m e)
theorem d_times : Df fa fn "times" (dd "times" 30) ["one", "other"] F_times := ⟨List.mem_of_getElem? (i := 16) rfl, rfl, fa_mem (by rfl), rfl, rfl, ⟨rfl, rfl, rfl, by decide +kernel, rfl, show ∀ x ∈ (["one", "other"] : List Str), _ ∨ _ by decide +kernel, by decide +kernel⟩, fun _ _ _ _ _ _ us hl => match us, hl with | [_, _], _ => rfl⟩
theorem o_times (m : Md fa fn gd) (e : errB gd.K = true) : okS 2 gd F_times.body := by
  dsimp only [F_times, okS, okE]
  repeat' apply And.intro
  all_goals first | trivial | with_reducible exact (c_lowest m e).mono (by decide)
theorem c_times (m : Md fa fn gd) (e : errB gd.K = true) : CallC gd 3 "times" (spD gd.K gd.mg gd.T F_times.run) := m.call d_times b_times (o_times m e)
theorem d_plus : Df fa fn "plus" (dd "plus" 29) ["one", "other"] F_plus := ⟨List.mem_of_getElem? (i := 15) rfl, rfl, fa_mem (by rfl), rfl, rfl, ⟨rfl, rfl, rfl, by decide +kernel, rfl, show ∀ x ∈ (["one", "other"] : List Str), _ ∨ _ by decide +kernel, by decide +kernel⟩, fun _ _ _ _ _ _ us hl => match us, hl with | [_, _], _ => rfl⟩
theorem o_plus (m : Md fa fn gd) (e : errB gd.K = true) : okS 2 gd F_plus.body := by
  dsimp only [F_plus, okS, okE]
  repeat' apply And.intro
  all_goals first | trivial | with_reducible exact (c_lowest m e).mono (by decide)
theorem c_plus (m : Md fa fn gd) (e : errB gd.K = true) : CallC gd 3 "plus" (spD gd.K gd.mg gd.T F_plus.run) := m.call d_plus b_plus (o_plus m e)
theorem d_pace_of : Df fa fn "pace_of" (dd "pace_of" 33) ["boat", "leg", "place", "flow", "speed", "word", "number"] F_pace_of := ⟨List.mem_of_getElem? (i := 19) rfl, rfl, fa_mem (by rfl), rfl, rfl, ⟨rfl, rfl, rfl, by decide +kernel, rfl, show ∀ x ∈ (["boat", "leg", "place", "flow"] : List Str), _ ∨ _ by decide +kernel, by decide +kernel⟩, fun _ _ _ _ _ _ us hl => match us, hl with | [_, _, _, _], _ => rfl⟩
theorem o_pace_of (m : Md fa fn gd) (e : errB gd.K = true) : okS 3 gd F_pace_of.body := by
  dsimp only [F_pace_of, okS, okE]
  repeat' apply And.intro
  all_goals first | trivial | with_reducible exact (c_minus m e).mono (by decide) | with_reducible exact (c_times m e).mono (by decide) | with_reducible exact (c_plus m e).mono (by decide)
theorem c_pace_of (m : Md fa fn gd) (e : errB gd.K = true) : CallC gd 4 "pace_of" (spD gd.K gd.mg gd.T F_pace_of.run) := m.call d_pace_of b_pace_of (o_pace_of m e)
theorem d_order : Df fa fn "order" (dd "order" 32) ["one", "other", "gap"] F_order := ⟨List.mem_of_getElem? (i := 18) rfl, rfl, fa_mem (by rfl), rfl, rfl, ⟨rfl, rfl, rfl, by decide +kernel, rfl, show ∀ x ∈ (["one", "other"] : List Str), _ ∨ _ by decide +kernel, by decide +kernel⟩, fun _ _ _ _ _ _ us hl => match us, hl with | [_, _], _ => rfl⟩
theorem o_order (m : Md fa fn gd) (e : errB gd.K = true) : okS 0 gd F_order.body := by
  dsimp only [F_order, okS, okE]
  repeat' apply And.intro
  all_goals first | trivial
theorem c_order (m : Md fa fn gd) (e : errB gd.K = true) : CallC gd 1 "order" (spD gd.K gd.mg gd.T F_order.run) := m.call d_order b_order (o_order m e)
theorem d_one_more : Df fa fn "one_more" (dd "one_more" 34) ["boat", "row", "others", "flow", "at", "leg", "place", "pace", "far"] F_one_more := ⟨List.mem_of_getElem? (i := 20) rfl, rfl, fa_mem (by rfl), rfl, rfl, ⟨rfl, rfl, rfl, by decide +kernel, rfl, show ∀ x ∈ (["boat", "row", "others", "flow"] : List Str), _ ∨ _ by decide +kernel, by decide +kernel⟩, fun _ _ _ _ _ _ us hl => match us, hl with | [_, _, _, _], _ => rfl⟩
theorem o_one_more (m : Md fa fn gd) (e : errB gd.K = true) : okS 4 gd F_one_more.body := by
  dsimp only [F_one_more, okS, okE]
  repeat' apply And.intro
  all_goals first | trivial | with_reducible exact (c_place_ahead m e).mono (by decide) | with_reducible exact (c_pace_of m e).mono (by decide) | with_reducible exact (c_plus m e).mono (by decide) | with_reducible exact (c_lowest m e).mono (by decide) | with_reducible exact (c_order m e).mono (by decide)
theorem c_one_more (m : Md fa fn gd) (e : errB gd.K = true) : CallC gd 5 "one_more" (spD gd.K gd.mg gd.T F_one_more.run) := m.call d_one_more b_one_more (o_one_more m e)
theorem d_clocks : Df fa fn "clocks" (dd "clocks" 35) ["plan", "flow", "one", "other", "ahead"] F_clocks := ⟨List.mem_of_getElem? (i := 21) rfl, rfl, fa_mem (by rfl), rfl, rfl, ⟨rfl, rfl, rfl, by decide +kernel, rfl, show ∀ x ∈ (["plan", "flow"] : List Str), _ ∨ _ by decide +kernel, by decide +kernel⟩, fun _ _ _ _ _ _ us hl => match us, hl with | [_, _], _ => rfl⟩
theorem o_clocks (m : Md fa fn gd) (e : errB gd.K = true) : okS 5 gd F_clocks.body := by
  dsimp only [F_clocks, B_clocks_1, okS, okE]
  repeat' apply And.intro
  all_goals first | trivial | with_reducible exact (c_one_more m e).mono (by decide)
theorem c_clocks (m : Md fa fn gd) (e : errB gd.K = true) : CallC gd 6 "clocks" (spD gd.K gd.mg gd.T F_clocks.run) := m.call d_clocks b_clocks (o_clocks m e)
theorem d_marks_of : Df fa fn "marks_of" (dd "marks_of" 39) ["rows", "found", "time", "at", "one"] F_marks_of := ⟨List.mem_of_getElem? (i := 25) rfl, rfl, fa_mem (by rfl), rfl, rfl, ⟨rfl, rfl, rfl, by decide +kernel, rfl, show ∀ x ∈ (["rows"] : List Str), _ ∨ _ by decide +kernel, by decide +kernel⟩, fun _ _ _ _ _ _ us hl => match us, hl with | [_], _ => rfl⟩
theorem o_marks_of (m : Md fa fn gd) (e : errB gd.K = true) : okS 1 gd F_marks_of.body := by
  dsimp only [F_marks_of, B_marks_of_1, okS, okE]
  repeat' apply And.intro
  all_goals first | trivial | with_reducible exact (c_order m e).mono (by decide) | exact srtF_ok
theorem c_marks_of (m : Md fa fn gd) (e : errB gd.K = true) : CallC gd 2 "marks_of" (spD gd.K gd.mg gd.T F_marks_of.run) := m.call d_marks_of b_marks_of (o_marks_of m e)
theorem d_sign_of : Df fa fn "sign_of" (dd "sign_of" 41) ["one"] F_sign_of := ⟨List.mem_of_getElem? (i := 27) rfl, rfl, fa_mem (by rfl), rfl, rfl, ⟨rfl, rfl, rfl, by decide +kernel, rfl, show ∀ x ∈ (["one"] : List Str), _ ∨ _ by decide +kernel, by decide +kernel⟩, fun _ _ _ _ _ _ us hl => match us, hl with | [_], _ => rfl⟩
theorem o_sign_of (m : Md fa fn gd) (e : errB gd.K = true) : okS 0 gd F_sign_of.body := by
  dsimp only [F_sign_of, okS, okE]
  repeat' apply And.intro
  all_goals first | trivial
theorem c_sign_of (m : Md fa fn gd) (e : errB gd.K = true) : CallC gd 1 "sign_of" (spD gd.K gd.mg gd.T F_sign_of.run) := m.call d_sign_of b_sign_of (o_sign_of m e)
theorem d_place_then : Df fa fn "place_then" (dd "place_then" 37) ["boat", "row", "time", "flow", "at", "place", "pace"] F_place_then := ⟨List.mem_of_getElem? (i := 23) rfl, rfl, fa_mem (by rfl), rfl, rfl, ⟨rfl, rfl, rfl, by decide +kernel, rfl, show ∀ x ∈ (["boat", "row", "time", "flow"] : List Str), _ ∨ _ by decide +kernel, by decide +kernel⟩, fun _ _ _ _ _ _ us hl => match us, hl with | [_, _, _, _], _ => rfl⟩
theorem o_place_then (m : Md fa fn gd) (e : errB gd.K = true) : okS 4 gd F_place_then.body := by
  dsimp only [F_place_then, B_place_then_1, okS, okE]
  repeat' apply And.intro
  all_goals first | trivial | with_reducible exact (c_place_ahead m e).mono (by decide) | with_reducible exact (c_order m e).mono (by decide) | with_reducible exact (c_pace_of m e).mono (by decide) | with_reducible exact (c_plus m e).mono (by decide) | with_reducible exact (c_times m e).mono (by decide) | with_reducible exact (c_minus m e).mono (by decide)
theorem c_place_then (m : Md fa fn gd) (e : errB gd.K = true) : CallC gd 5 "place_then" (spD gd.K gd.mg gd.T F_place_then.run) := m.call d_place_then b_place_then (o_place_then m e)
theorem d_crossed : Df fa fn "crossed" (dd "crossed" 40) ["gaps", "begin", "end", "share"] F_crossed := ⟨List.mem_of_getElem? (i := 26) rfl, rfl, fa_mem (by rfl), rfl, rfl, ⟨rfl, rfl, rfl, by decide +kernel, rfl, show ∀ x ∈ (["gaps", "begin", "end"] : List Str), _ ∨ _ by decide +kernel, by decide +kernel⟩, fun _ _ _ _ _ _ us hl => match us, hl with | [_, _, _], _ => rfl⟩
theorem o_crossed (m : Md fa fn gd) (e : errB gd.K = true) : okS 3 gd F_crossed.body := by
  dsimp only [F_crossed, okS, okE]
  repeat' apply And.intro
  all_goals first | trivial | with_reducible exact (c_lowest m e).mono (by decide) | with_reducible exact (c_plus m e).mono (by decide) | with_reducible exact (c_times m e).mono (by decide) | with_reducible exact (c_minus m e).mono (by decide)
theorem c_crossed (m : Md fa fn gd) (e : errB gd.K = true) : CallC gd 4 "crossed" (spD gd.K gd.mg gd.T F_crossed.run) := m.call d_crossed b_crossed (o_crossed m e)
theorem d_met : Df fa fn "met" (dd "met" 42) ["plan", "flow", "rows", "marks", "places", "gaps", "found", "side", "begun", "at", "mark", "here", "later", "boat", "time", "one", "other"] F_met := ⟨List.mem_of_getElem? (i := 28) rfl, rfl, fa_mem (by rfl), rfl, rfl, ⟨rfl, rfl, rfl, by decide +kernel, rfl, show ∀ x ∈ (["plan", "flow"] : List Str), _ ∨ _ by decide +kernel, by decide +kernel⟩, fun _ _ _ _ _ _ us hl => match us, hl with | [_, _], _ => rfl⟩
theorem o_met (m : Md fa fn gd) (e : errB gd.K = true) : okS 6 gd F_met.body := by
  dsimp only [F_met, B_met_1, okS, okE]
  repeat' apply And.intro
  all_goals first | trivial | with_reducible exact (c_clocks m e).mono (by decide) | with_reducible exact (c_marks_of m e).mono (by decide) | with_reducible exact (c_minus m e).mono (by decide) | with_reducible exact (c_sign_of m e).mono (by decide) | with_reducible exact (c_place_then m e).mono (by decide) | with_reducible exact (c_crossed m e).mono (by decide)
theorem c_met (m : Md fa fn gd) (e : errB gd.K = true) : CallC gd 7 "met" (spD gd.K gd.mg gd.T F_met.run) := m.call d_met b_met (o_met m e)
theorem d_meetings : Df fa fn "meetings" (dd "meetings" 43) ["plan", "flow"] F_meetings := ⟨List.mem_of_getElem? (i := 29) rfl, rfl, fa_mem (by rfl), rfl, rfl, ⟨rfl, rfl, rfl, by decide +kernel, rfl, show ∀ x ∈ (["plan", "flow"] : List Str), _ ∨ _ by decide +kernel, by decide +kernel⟩, fun _ _ _ _ _ _ us hl => match us, hl with | [_, _], _ => rfl⟩
theorem o_meetings (m : Md fa fn gd) (e : errB gd.K = true) : okS 7 gd F_meetings.body := by
  dsimp only [F_meetings, okS, okE]
  repeat' apply And.intro
  all_goals first | trivial | with_reducible exact (c_need_both m e).mono (by decide) | with_reducible exact (c_met m e).mono (by decide)
theorem c_meetings (m : Md fa fn gd) (e : errB gd.K = true) : CallC gd 8 "meetings" (spD gd.K gd.mg gd.T F_meetings.run) := m.call d_meetings b_meetings (o_meetings m e)
theorem d_law_lowest : Df fa fn "_law_lowest" (dd "_law_lowest" 53) ["_law_top", "_law_below", "_law_sign", "_law_one", "_law_other"] F_law_lowest := ⟨List.mem_of_getElem? (i := 38) rfl, rfl, fa_mem (by rfl), rfl, rfl, ⟨rfl, rfl, rfl, by decide +kernel, rfl, show ∀ x ∈ (["_law_top", "_law_below"] : List Str), _ ∨ _ by decide +kernel, by decide +kernel⟩, fun _ _ _ _ _ _ us hl => match us, hl with | [_, _], _ => rfl⟩
theorem o_law_lowest (m : Md fa fn gd) (e : errB gd.K = true) : okS 0 gd F_law_lowest.body := by
  dsimp only [F_law_lowest, B_law_lowest_1, okS, okE]
  repeat' apply And.intro
  all_goals first | trivial
theorem c_law_lowest (m : Md fa fn gd) (e : errB gd.K = true) : CallC gd 1 "_law_lowest" (spD gd.K gd.mg gd.T F_law_lowest.run) := m.call d_law_lowest b_law_lowest (o_law_lowest m e)
theorem d_law_choice : Df fa fn "_law_choice" (dd "_law_choice" 52) ["_law_bag_here", "_law_some"] F_law_choice := ⟨List.mem_of_getElem? (i := 37) rfl, rfl, fa_mem (by rfl), rfl, rfl, ⟨rfl, rfl, rfl, by decide +kernel, rfl, show ∀ x ∈ (["_law_bag_here", "_law_some"] : List Str), _ ∨ _ by decide +kernel, by decide +kernel⟩, fun _ _ _ _ _ _ us hl => match us, hl with | [_, _], _ => rfl⟩
theorem o_law_choice (m : Md fa fn gd) (e : errB gd.K = true) : okS 1 gd F_law_choice.body := by
  dsimp only [F_law_choice, okS, okE]
  repeat' apply And.intro
  all_goals first | trivial | with_reducible exact (c_law_take m e).mono (by decide)
theorem c_law_choice (m : Md fa fn gd) (e : errB gd.K = true) : CallC gd 2 "_law_choice" (spB gd.K gd.mg gd.T F_law_choice.runB) := m.callB d_law_choice b_law_choice (o_law_choice m e)
theorem d_law_mixed : Df fa fn "_law_mixed" (dd "_law_mixed" 66) ["_law_bag_here", "_law_plan_here", "_law_speed", "_law_below"] F_law_mixed := ⟨List.mem_of_getElem? (i := 51) rfl, rfl, fa_mem (by rfl), rfl, rfl, ⟨rfl, rfl, rfl, by decide +kernel, rfl, show ∀ x ∈ (["_law_bag_here", "_law_plan_here"] : List Str), _ ∨ _ by decide +kernel, by decide +kernel⟩, fun _ _ _ _ _ _ us hl => match us, hl with | [_, _], _ => rfl⟩
theorem o_law_mixed (m : Md fa fn gd) (e : errB gd.K = true) : okS 2 gd F_law_mixed.body := by
  dsimp only [F_law_mixed, okS, okE]
  repeat' apply And.intro
  all_goals first | trivial | with_reducible exact (c_law_lowest m e).mono (by decide) | with_reducible exact (c_law_take m e).mono (by decide) | with_reducible exact (c_law_choice m e).mono (by decide)
theorem c_law_mixed (m : Md fa fn gd) (e : errB gd.K = true) : CallC gd 3 "_law_mixed" (spB gd.K gd.mg gd.T F_law_mixed.runB) := m.callB d_law_mixed b_law_mixed (o_law_mixed m e)
theorem d_home_at : Df fa fn "home_at" (dd "home_at" 44) ["plan", "flow", "rows", "is_home", "sign", "boat"] F_home_at := ⟨List.mem_of_getElem? (i := 30) rfl, rfl, fa_mem (by rfl), rfl, rfl, ⟨rfl, rfl, rfl, by decide +kernel, rfl, show ∀ x ∈ (["plan", "flow"] : List Str), _ ∨ _ by decide +kernel, by decide +kernel⟩, fun _ _ _ _ _ _ us hl => match us, hl with | [_, _], _ => rfl⟩
theorem o_home_at (m : Md fa fn gd) (e : errB gd.K = true) : okS 6 gd F_home_at.body := by
  dsimp only [F_home_at, okS, okE]
  repeat' apply And.intro
  all_goals first | trivial | with_reducible exact (c_clocks m e).mono (by decide) | with_reducible exact (c_order m e).mono (by decide) | exact idxF_ok
theorem c_home_at (m : Md fa fn gd) (e : errB gd.K = true) : CallC gd 7 "home_at" (spD gd.K gd.mg gd.T F_home_at.run) := m.call d_home_at b_home_at (o_home_at m e)
theorem d_story_at : Df fa fn "story_at" (dd "story_at" 45) ["plan", "flow", "place", "kind"] F_story_at := ⟨List.mem_of_getElem? (i := 31) rfl, rfl, fa_mem (by rfl), rfl, rfl, ⟨rfl, rfl, rfl, by decide +kernel, rfl, show ∀ x ∈ (["plan", "flow"] : List Str), _ ∨ _ by decide +kernel, by decide +kernel⟩, fun _ _ _ _ _ _ us hl => match us, hl with | [_, _], _ => rfl⟩
theorem o_story_at (m : Md fa fn gd) (e : errB gd.K = true) : okS 7 gd F_story_at.body := by
  dsimp only [F_story_at, okS, okE]
  repeat' apply And.intro
  all_goals first | trivial | with_reducible exact (c_home_at m e).mono (by decide) | with_reducible exact (c_met m e).mono (by decide)
theorem c_story_at (m : Md fa fn gd) (e : errB gd.K = true) : CallC gd 8 "story_at" (spD gd.K gd.mg gd.T F_story_at.run) := m.call d_story_at b_story_at (o_story_at m e)
theorem d_story : Df fa fn "story" (dd "story" 46) ["plan", "flow"] F_story := ⟨List.mem_of_getElem? (i := 32) rfl, rfl, fa_mem (by rfl), rfl, rfl, ⟨rfl, rfl, rfl, by decide +kernel, rfl, show ∀ x ∈ (["plan", "flow"] : List Str), _ ∨ _ by decide +kernel, by decide +kernel⟩, fun _ _ _ _ _ _ us hl => match us, hl with | [_, _], _ => rfl⟩
theorem o_story (m : Md fa fn gd) (e : errB gd.K = true) : okS 8 gd F_story.body := by
  dsimp only [F_story, okS, okE]
  repeat' apply And.intro
  all_goals first | trivial | with_reducible exact (c_need_both m e).mono (by decide) | with_reducible exact (c_story_at m e).mono (by decide)
theorem c_story (m : Md fa fn gd) (e : errB gd.K = true) : CallC gd 9 "story" (spD gd.K gd.mg gd.T F_story.run) := m.call d_story b_story (o_story m e)
theorem d_done_at : Df fa fn "done_at" (dd "done_at" 36) ["plan", "flow", "row"] F_done_at := ⟨List.mem_of_getElem? (i := 22) rfl, rfl, fa_mem (by rfl), rfl, rfl, ⟨rfl, rfl, rfl, by decide +kernel, rfl, show ∀ x ∈ (["plan", "flow"] : List Str), _ ∨ _ by decide +kernel, by decide +kernel⟩, fun _ _ _ _ _ _ us hl => match us, hl with | [_, _], _ => rfl⟩
theorem o_done_at (m : Md fa fn gd) (e : errB gd.K = true) : okS 7 gd F_done_at.body := by
  dsimp only [F_done_at, okS, okE]
  repeat' apply And.intro
  all_goals first | trivial | with_reducible exact (c_need_both m e).mono (by decide) | with_reducible exact (c_clocks m e).mono (by decide)
theorem c_done_at (m : Md fa fn gd) (e : errB gd.K = true) : CallC gd 8 "done_at" (spD gd.K gd.mg gd.T F_done_at.run) := m.call d_done_at b_done_at (o_done_at m e)
theorem d_need_number : Df fa fn "need_number" (dd "need_number" 26) ["value", "low", "high"] F_need_number := ⟨List.mem_of_getElem? (i := 13) rfl, rfl, fa_mem (by rfl), rfl, rfl, ⟨rfl, rfl, rfl, by decide +kernel, rfl, show ∀ x ∈ (["value", "low", "high"] : List Str), _ ∨ _ by decide +kernel, by decide +kernel⟩, fun _ _ _ _ _ _ us hl => match us, hl with | [_, _, _], _ => rfl⟩
theorem o_need_number (m : Md fa fn gd) (e : errB gd.K = true) : okS 2 gd F_need_number.body := by
  dsimp only [F_need_number, okS, okE]
  repeat' apply And.intro
  all_goals first | trivial | with_reducible exact (c_is_whole m e).mono (by decide) | exact m.exc (fa_mem (by decide +kernel)) (fa_mem (by decide +kernel))
theorem c_need_number (m : Md fa fn gd) (e : errB gd.K = true) : CallC gd 3 "need_number" (spD gd.K gd.mg gd.T F_need_number.run) := m.call d_need_number b_need_number (o_need_number m e)
theorem d_place_at : Df fa fn "place_at" (dd "place_at" 38) ["plan", "flow", "boat", "time"] F_place_at := ⟨List.mem_of_getElem? (i := 24) rfl, rfl, fa_mem (by rfl), rfl, rfl, ⟨rfl, rfl, rfl, by decide +kernel, rfl, show ∀ x ∈ (["plan", "flow", "boat", "time"] : List Str), _ ∨ _ by decide +kernel, by decide +kernel⟩, fun _ _ _ _ _ _ us hl => match us, hl with | [_, _, _, _], _ => rfl⟩
theorem o_place_at (m : Md fa fn gd) (e : errB gd.K = true) : okS 7 gd F_place_at.body := by
  dsimp only [F_place_at, okS, okE]
  repeat' apply And.intro
  all_goals first | trivial | with_reducible exact (c_need_both m e).mono (by decide) | with_reducible exact (c_need_number m e).mono (by decide) | with_reducible exact (c_place_then m e).mono (by decide) | with_reducible exact (c_is_fraction m e).mono (by decide) | with_reducible exact (c_clocks m e).mono (by decide) | exact m.exc (fa_mem (by decide +kernel)) (fa_mem (by decide +kernel))
theorem c_place_at (m : Md fa fn gd) (e : errB gd.K = true) : CallC gd 8 "place_at" (spD gd.K gd.mg gd.T F_place_at.run) := m.call d_place_at b_place_at (o_place_at m e)
theorem d_law_refused : Df fa fn "_law_refused" (dd "_law_refused" 70) ["_law_plan_here", "_law_odd", "_law_words"] F_law_refused := ⟨List.mem_of_getElem? (i := 55) rfl, rfl, fa_mem (by rfl), rfl, rfl, ⟨rfl, rfl, rfl, by decide +kernel, rfl, show ∀ x ∈ (["_law_plan_here"] : List Str), _ ∨ _ by decide +kernel, by decide +kernel⟩, fun _ _ _ _ _ _ us hl => match us, hl with | [_], _ => rfl⟩
theorem o_law_refused (m : Md fa fn gd) (e : errB gd.K = true) (hT : gd.T = tabT gd.K tfs) (hd : tabD gd.K tfs = true) (tb : ∀ x ∈ tfs, LamX.TabB gd.base gd.mg (He.cT gd.K (x, none)).1 (He.cT gd.K (x, none)).2) : okS 11 gd F_law_refused.body := by
  dsimp only [F_law_refused, B_law_refused_1, B_law_refused_2, B_law_refused_3, okS, okE]
  repeat' apply And.intro
  all_goals first | trivial | exact lamok_err (by decide) (named m e _) (errF m) | with_reducible exact (c_story m e).mono (by decide) | with_reducible exact (c_done_at m e).mono (by decide) | with_reducible exact (c_meetings m e).mono (by decide) | with_reducible exact (c_place_at m e).mono (by decide)
theorem c_law_refused (m : Md fa fn gd) (e : errB gd.K = true) (hT : gd.T = tabT gd.K tfs) (hd : tabD gd.K tfs = true) (tb : ∀ x ∈ tfs, LamX.TabB gd.base gd.mg (He.cT gd.K (x, none)).1 (He.cT gd.K (x, none)).2) : CallC gd 12 "_law_refused" (spD gd.K gd.mg gd.T F_law_refused.run) := m.callM hT hd tb d_law_refused (List.mem_of_getElem? (i := 0) rfl) rfl b_law_refused (o_law_refused m e hT hd tb) rfl
theorem d_law_paces : Df fa fn "_law_paces" (dd "_law_paces" 57) ["_law_plan_here", "_law_flow", "_law_boat", "_law_top", "_law_below", "_law_found", "_law_whole", "_law_row"] F_law_paces := ⟨List.mem_of_getElem? (i := 42) rfl, rfl, fa_mem (by rfl), rfl, rfl, ⟨rfl, rfl, rfl, by decide +kernel, rfl, show ∀ x ∈ (["_law_plan_here", "_law_flow"] : List Str), _ ∨ _ by decide +kernel, by decide +kernel⟩, fun _ _ _ _ _ _ us hl => match us, hl with | [_, _], _ => rfl⟩
theorem o_law_paces (m : Md fa fn gd) (e : errB gd.K = true) : okS 0 gd F_law_paces.body := by
  dsimp only [F_law_paces, B_law_paces_1, okS, okE]
  repeat' apply And.intro
  all_goals first | trivial
theorem c_law_paces (m : Md fa fn gd) (e : errB gd.K = true) : CallC gd 1 "_law_paces" (spD gd.K gd.mg gd.T F_law_paces.run) := m.call d_law_paces b_law_paces (o_law_paces m e)
theorem d_law_spots : Df fa fn "_law_spots" (dd "_law_spots" 56) ["_law_boat", "_law_found", "_law_word", "_law_number"] F_law_spots := ⟨List.mem_of_getElem? (i := 41) rfl, rfl, fa_mem (by rfl), rfl, rfl, ⟨rfl, rfl, rfl, by decide +kernel, rfl, show ∀ x ∈ (["_law_boat"] : List Str), _ ∨ _ by decide +kernel, by decide +kernel⟩, fun _ _ _ _ _ _ us hl => match us, hl with | [_], _ => rfl⟩
theorem o_law_spots (m : Md fa fn gd) (e : errB gd.K = true) : okS 0 gd F_law_spots.body := by
  dsimp only [F_law_spots, B_law_spots_1, okS, okE]
  repeat' apply And.intro
  all_goals first | trivial
theorem c_law_spots (m : Md fa fn gd) (e : errB gd.K = true) : CallC gd 1 "_law_spots" (spD gd.K gd.mg gd.T F_law_spots.run) := m.call d_law_spots b_law_spots (o_law_spots m e)
theorem d_law_pace : Df fa fn "_law_pace" (dd "_law_pace" 58) ["_law_leg", "_law_spot", "_law_row"] F_law_pace := ⟨List.mem_of_getElem? (i := 43) rfl, rfl, fa_mem (by rfl), rfl, rfl, ⟨rfl, rfl, rfl, by decide +kernel, rfl, show ∀ x ∈ (["_law_leg", "_law_spot", "_law_row"] : List Str), _ ∨ _ by decide +kernel, by decide +kernel⟩, fun _ _ _ _ _ _ us hl => match us, hl with | [_, _, _], _ => rfl⟩
theorem o_law_pace (m : Md fa fn gd) (e : errB gd.K = true) : okS 0 gd F_law_pace.body := by
  dsimp only [F_law_pace, okS, okE]
  repeat' apply And.intro
  all_goals first | trivial
theorem c_law_pace (m : Md fa fn gd) (e : errB gd.K = true) : CallC gd 1 "_law_pace" (spD gd.K gd.mg gd.T F_law_pace.run) := m.call d_law_pace b_law_pace (o_law_pace m e)
theorem d_law_clock : Df fa fn "_law_clock" (dd "_law_clock" 59) ["_law_plan_here", "_law_flow", "_law_paces_here", "_law_whole", "_law_rows", "_law_more", "_law_who", "_law_row", "_law_others", "_law_at", "_law_leg", "_law_spot", "_law_pace_here", "_law_time"] F_law_clock := ⟨List.mem_of_getElem? (i := 44) rfl, rfl, fa_mem (by rfl), rfl, rfl, ⟨rfl, rfl, rfl, by decide +kernel, rfl, show ∀ x ∈ (["_law_plan_here", "_law_flow"] : List Str), _ ∨ _ by decide +kernel, by decide +kernel⟩, fun _ _ _ _ _ _ us hl => match us, hl with | [_, _], _ => rfl⟩
theorem oi_law_clock (m : Md fa fn gd) (e : errB gd.K = true) : okS 1 gd I_law_clock := by
  dsimp only [I_law_clock, okS, okE]
  repeat' apply And.intro
  all_goals first | trivial | with_reducible exact (c_law_paces m e).mono (by decide) | with_reducible exact (c_law_spots m e).mono (by decide) | with_reducible exact (c_law_pace m e).mono (by decide)
theorem o_law_clock (m : Md fa fn gd) (e : errB gd.K = true) : okS 1 gd F_law_clock.body := by
  refine ⟨?_, clock_ok (oi_law_clock m e)⟩
  dsimp only [okS, okE]
  repeat' apply And.intro
  all_goals first | trivial | with_reducible exact (c_law_paces m e).mono (by decide) | with_reducible exact (c_law_spots m e).mono (by decide) | with_reducible exact (c_law_pace m e).mono (by decide)
theorem c_law_clock (m : Md fa fn gd) (e : errB gd.K = true) : CallC gd 2 "_law_clock" (spD gd.K gd.mg gd.T F_law_clock.run) := m.call d_law_clock b_law_clock (o_law_clock m e)
theorem d_law_there : Df fa fn "_law_there" (dd "_law_there" 60) ["_law_plan_here", "_law_flow", "_law_rows", "_law_who", "_law_time", "_law_at", "_law_paces_here", "_law_whole", "_law_spots_here", "_law_row", "_law_pace_here"] F_law_there := ⟨List.mem_of_getElem? (i := 45) rfl, rfl, fa_mem (by rfl), rfl, rfl, ⟨rfl, rfl, rfl, by decide +kernel, rfl, show ∀ x ∈ (["_law_plan_here", "_law_flow", "_law_rows", "_law_who", "_law_time"] : List Str), _ ∨ _ by decide +kernel, by decide +kernel⟩, fun _ _ _ _ _ _ us hl => match us, hl with | [_, _, _, _, _], _ => rfl⟩
theorem o_law_there (m : Md fa fn gd) (e : errB gd.K = true) : okS 1 gd F_law_there.body := by
  dsimp only [F_law_there, B_law_there_1, okS, okE]
  repeat' apply And.intro
  all_goals first | trivial | with_reducible exact (c_law_paces m e).mono (by decide) | with_reducible exact (c_law_spots m e).mono (by decide) | with_reducible exact (c_law_pace m e).mono (by decide)
theorem c_law_there (m : Md fa fn gd) (e : errB gd.K = true) : CallC gd 2 "_law_there" (spD gd.K gd.mg gd.T F_law_there.run) := m.call d_law_there b_law_there (o_law_there m e)
theorem d_law_gaps : Df fa fn "_law_gaps" (dd "_law_gaps" 61) ["_law_plan_here", "_law_flow", "_law_rows", "_law_gaps_here", "_law_time", "_law_at", "_law_marks", "_law_found", "_law_mine", "_law_last", "_law_end"] F_law_gaps := ⟨List.mem_of_getElem? (i := 46) rfl, rfl, fa_mem (by rfl), rfl, rfl, ⟨rfl, rfl, rfl, by decide +kernel, rfl, show ∀ x ∈ (["_law_plan_here", "_law_flow"] : List Str), _ ∨ _ by decide +kernel, by decide +kernel⟩, fun _ _ _ _ _ _ us hl => match us, hl with | [_, _], _ => rfl⟩
theorem o_law_gaps (m : Md fa fn gd) (e : errB gd.K = true) : okS 2 gd F_law_gaps.body := by
  dsimp only [F_law_gaps, B_law_gaps_1, B_law_gaps_2, okS, okE]
  repeat' apply And.intro
  all_goals first | trivial | with_reducible exact (c_law_clock m e).mono (by decide) | with_reducible exact (c_law_there m e).mono (by decide) | exact srtF_ok
theorem c_law_gaps (m : Md fa fn gd) (e : errB gd.K = true) : CallC gd 3 "_law_gaps" (spD gd.K gd.mg gd.T F_law_gaps.run) := m.call d_law_gaps b_law_gaps (o_law_gaps m e)
theorem d_law_stretches : Df fa fn "_law_stretches" (dd "_law_stretches" 62) ["_law_plan_here", "_law_flow", "_law_found", "_law_last", "_law_begin", "_law_end", "_law_one", "_law_two", "_law_time"] F_law_stretches := ⟨List.mem_of_getElem? (i := 47) rfl, rfl, fa_mem (by rfl), rfl, rfl, ⟨rfl, rfl, rfl, by decide +kernel, rfl, show ∀ x ∈ (["_law_plan_here", "_law_flow"] : List Str), _ ∨ _ by decide +kernel, by decide +kernel⟩, fun _ _ _ _ _ _ us hl => match us, hl with | [_, _], _ => rfl⟩
theorem o_law_stretches (m : Md fa fn gd) (e : errB gd.K = true) : okS 3 gd F_law_stretches.body := by
  dsimp only [F_law_stretches, B_law_stretches_1, okS, okE]
  repeat' apply And.intro
  all_goals first | trivial | with_reducible exact (c_law_gaps m e).mono (by decide) | with_reducible exact (c_law_lowest m e).mono (by decide)
theorem c_law_stretches (m : Md fa fn gd) (e : errB gd.K = true) : CallC gd 4 "_law_stretches" (spD gd.K gd.mg gd.T F_law_stretches.run) := m.call d_law_stretches b_law_stretches (o_law_stretches m e)
theorem d_law_met : Df fa fn "_law_met" (dd "_law_met" 63) ["_law_plan_here", "_law_flow", "_law_whole", "_law_rows", "_law_found", "_law_end", "_law_ahead", "_law_behind", "_law_low", "_law_here", "_law_rise", "_law_far", "_law_place", "_law_top", "_law_below"] F_law_met := ⟨List.mem_of_getElem? (i := 48) rfl, rfl, fa_mem (by rfl), rfl, rfl, ⟨rfl, rfl, rfl, by decide +kernel, rfl, show ∀ x ∈ (["_law_plan_here", "_law_flow"] : List Str), _ ∨ _ by decide +kernel, by decide +kernel⟩, fun _ _ _ _ _ _ us hl => match us, hl with | [_, _], _ => rfl⟩
theorem o_law_met (m : Md fa fn gd) (e : errB gd.K = true) : okS 4 gd F_law_met.body := by
  dsimp only [F_law_met, B_law_met_1, okS, okE]
  repeat' apply And.intro
  all_goals first | trivial | with_reducible exact (c_law_stretches m e).mono (by decide) | with_reducible exact (c_law_clock m e).mono (by decide) | with_reducible exact (c_law_paces m e).mono (by decide) | with_reducible exact (c_law_there m e).mono (by decide) | with_reducible exact (c_law_lowest m e).mono (by decide)
theorem c_law_met (m : Md fa fn gd) (e : errB gd.K = true) : CallC gd 5 "_law_met" (spD gd.K gd.mg gd.T F_law_met.run) := m.call d_law_met b_law_met (o_law_met m e)
theorem d_law_home : Df fa fn "_law_home" (dd "_law_home" 64) ["_law_plan_here", "_law_flow", "_law_rows", "_law_ends", "_law_who"] F_law_home := ⟨List.mem_of_getElem? (i := 49) rfl, rfl, fa_mem (by rfl), rfl, rfl, ⟨rfl, rfl, rfl, by decide +kernel, rfl, show ∀ x ∈ (["_law_plan_here", "_law_flow"] : List Str), _ ∨ _ by decide +kernel, by decide +kernel⟩, fun _ _ _ _ _ _ us hl => match us, hl with | [_, _], _ => rfl⟩
theorem o_law_home (m : Md fa fn gd) (e : errB gd.K = true) : okS 2 gd F_law_home.body := by
  dsimp only [F_law_home, okS, okE]
  repeat' apply And.intro
  all_goals first | trivial | with_reducible exact (c_law_clock m e).mono (by decide)
theorem c_law_home (m : Md fa fn gd) (e : errB gd.K = true) : CallC gd 3 "_law_home" (spD gd.K gd.mg gd.T F_law_home.run) := m.call d_law_home b_law_home (o_law_home m e)
theorem d_law_story : Df fa fn "_law_story" (dd "_law_story" 65) ["_law_plan_here", "_law_flow", "_law_place", "_law_kind"] F_law_story := ⟨List.mem_of_getElem? (i := 50) rfl, rfl, fa_mem (by rfl), rfl, rfl, ⟨rfl, rfl, rfl, by decide +kernel, rfl, show ∀ x ∈ (["_law_plan_here", "_law_flow"] : List Str), _ ∨ _ by decide +kernel, by decide +kernel⟩, fun _ _ _ _ _ _ us hl => match us, hl with | [_, _], _ => rfl⟩
theorem o_law_story (m : Md fa fn gd) (e : errB gd.K = true) : okS 5 gd F_law_story.body := by
  dsimp only [F_law_story, okS, okE]
  repeat' apply And.intro
  all_goals first | trivial | with_reducible exact (c_law_home m e).mono (by decide) | with_reducible exact (c_law_met m e).mono (by decide)
theorem c_law_story (m : Md fa fn gd) (e : errB gd.K = true) : CallC gd 6 "_law_story" (spD gd.K gd.mg gd.T F_law_story.run) := m.call d_law_story b_law_story (o_law_story m e)
theorem d_law_place_right : Df fa fn "_law_place_right" (dd "_law_place_right" 69) ["_law_bag_here", "_law_plan_here", "_law_flow", "_law_rows", "_law_whole", "_law_turn", "_law_due", "_law_who", "_law_time"] F_law_place_right := ⟨List.mem_of_getElem? (i := 54) rfl, rfl, fa_mem (by rfl), rfl, rfl, ⟨rfl, rfl, rfl, by decide +kernel, rfl, show ∀ x ∈ (["_law_bag_here", "_law_plan_here", "_law_flow", "_law_rows"] : List Str), _ ∨ _ by decide +kernel, by decide +kernel⟩, fun _ _ _ _ _ _ us hl => match us, hl with | [_, _, _, _], _ => rfl⟩
theorem o_law_place_right (m : Md fa fn gd) (e : errB gd.K = true) : okS 8 gd F_law_place_right.body := by
  dsimp only [F_law_place_right, B_law_place_right_1, okS, okE]
  repeat' apply And.intro
  all_goals first | trivial | with_reducible exact (c_law_paces m e).mono (by decide) | with_reducible exact (c_law_lowest m e).mono (by decide) | with_reducible exact (c_law_take m e).mono (by decide) | with_reducible exact (c_law_there m e).mono (by decide) | with_reducible exact (c_place_at m e).mono (by decide) | exact maxF_ok
theorem c_law_place_right (m : Md fa fn gd) (e : errB gd.K = true) : CallC gd 9 "_law_place_right" (spB gd.K gd.mg gd.T F_law_place_right.runB) := m.callB d_law_place_right b_law_place_right (o_law_place_right m e)
theorem d_law : Df fa fn "law" (dd "law" 71) ["_law_script", "_law_k", "_law_some", "_law_bag_here", "_law_plan_here", "_law_turn", "_law_flow", "_law_due", "_law_row", "_law_whole", "_law_rows", "_law_time"] F_law := ⟨List.mem_of_getElem? (i := 56) rfl, rfl, fa_mem (by rfl), rfl, rfl, ⟨rfl, rfl, rfl, by decide +kernel, rfl, show ∀ x ∈ (["_law_script"] : List Str), _ ∨ _ by decide +kernel, by decide +kernel⟩, fun _ _ _ _ _ _ us hl => match us, hl with | [_], _ => rfl⟩
theorem o_law (m : Md fa fn gd) (e : errB gd.K = true) (hT : gd.T = tabT gd.K tfs) (hd : tabD gd.K tfs = true) (tb : ∀ x ∈ tfs, LamX.TabB gd.base gd.mg (He.cT gd.K (x, none)).1 (He.cT gd.K (x, none)).2) : okS 12 gd F_law.body := by
  dsimp only [F_law, B_law_1, B_law_2, B_law_3, okS, okE]
  repeat' apply And.intro
  all_goals first | trivial | with_reducible exact (c_law_bag m e).mono (by decide) | with_reducible exact (c_law_plan m e).mono (by decide) | with_reducible exact (c_meetings m e).mono (by decide) | with_reducible exact (c_law_mixed m e).mono (by decide) | with_reducible exact (c_law_refused m e hT hd tb).mono (by decide) | with_reducible exact (c_done_at m e).mono (by decide) | with_reducible exact (c_place_at m e).mono (by decide) | with_reducible exact (c_story m e).mono (by decide) | with_reducible exact (c_law_clock m e).mono (by decide) | with_reducible exact (c_law_paces m e).mono (by decide) | with_reducible exact (c_law_met m e).mono (by decide) | with_reducible exact (c_law_story m e).mono (by decide) | with_reducible exact (c_law_place_right m e).mono (by decide) | with_reducible exact (c_law_lowest m e).mono (by decide)
end
end K02
set_option maxHeartbeats 1000000
set_option maxRecDepth 10000
namespace K02
open PySem PySem.Spec PyProof.Rows L2 DV DV.Pl
theorem r_is_plain (d : DV.D) (h : SeqAt.shaped d = true) : F_is_plain.run [d] = .ok (.bool (plainB d)) := by
  cases d <;> first | (simp [F_is_plain, plainB]; done) | (exfalso; revert h; simp [SeqAt.shaped, PyData.canLay0])
theorem r_is_whole (d : DV.D) (lo hi : Int) (h : SeqAt.shaped d = true) : F_is_whole.run [d, .int lo, .int hi] = .ok (.bool (wholeB d lo hi)) := by
  simp [F_is_whole, r_is_plain, h]
  cases d <;> simp [plainB, wholeB]
  split
  · simp_all
  · simp_all; omega
theorem legB_str (w : Str) (n : DV.D) : legB (.tuple [.str w, n]) = if w = "to" ∨ w = "drift" then wholeB n 0 9 else decide (w = "wait") && wholeB n 1 4 := by
  unfold legB
  cases n with
  | int i =>
    show (match (if w = "to" then some (Lg.to i) else if w = "drift" then some (Lg.dr i) else if w = "wait" then some (Lg.wa i) else none) with | some g => g.rng | none => false) = _
    by_cases h1 : w = "to"
    · simp [h1, wholeB, Lg.rng]
    · by_cases h2 : w = "drift"
      · simp [h2, wholeB, Lg.rng]
      · by_cases h3 : w = "wait"
        · simp [h1, h2, h3, wholeB, Lg.rng]
        · simp [h1, h2, h3, wholeB]
  | _ => simp [toLg, wholeB]
theorem r_is_leg (d : DV.D) (h : SeqAt.shaped d = true) : F_is_leg.run [d] = .ok (.bool (legB d)) := by
  have hn := Nc.of h
  match d, h, hn with
  | .tuple [], _, _ => simp [F_is_leg, legB, toLg]
  | .tuple [a], _, _ => simp [F_is_leg, legB, toLg]
  | .tuple [a, n], _, hn =>
    have ha := (nc_tup.mp hn a (by simp)).shaped (by decide)
    have hb := (nc_tup.mp hn n (by simp)).shaped (by decide)
    cases a with
    | str w =>
      rw [legB_str]
      simp [F_is_leg, in_tup2 _ ha so_to so_drift, r_is_whole _ _ _ hb]
      by_cases h1 : w = "to" ∨ w = "drift"
      · simp [h1]
      · rcases Decidable.em (w = "wait") with rfl | h3
        · simp [eqD_str ha so_wait, r_is_whole _ _ _ hb]
        · simp [h1, eqD_str ha so_wait, h3]
    | dict l => exact (nc_dict (Nc.of ha)).elim
    | _ => simp [F_is_leg, legB, toLg]
  | .tuple (a :: b :: c :: r), _, _ =>
    have : ¬ ((r.length : Int) + 1 + 1 + 1 = 2) := by omega
    simp [F_is_leg, legB, toLg, this]
  | .list _, _, _ => simp [F_is_leg, legB, toLg]
  | .int _, _, _ => simp [F_is_leg, legB, toLg]
  | .bool _, _, _ => simp [F_is_leg, legB, toLg]
  | .str _, _, _ => simp [F_is_leg, legB, toLg]
  | .none, _, _ => simp [F_is_leg, legB, toLg]
  | .dict _, _, hn => exact (nc_dict hn).elim
/-- a turn of the loop over the legs -/
theorem boat_turn (d v L : DV.D) (s : Int) (g : Lg) : evS B_is_boat_1 ⟨[.val d, .val v, .val (.int s), .val L, .val (.str g.w), .val (.int g.n), .no], []⟩ = if g.mov s = true then .next ⟨[.val d, .val v, .val (.int (g.go s)), .val L, .val (.str g.w), .val (.int g.n), .no], []⟩ else .ret (.bool false) ⟨[.val d, .val v, .val (.int s), .val L, .val (.str g.w), .val (.int g.n), .no], []⟩ := by
  cases g with
  | to p => by_cases h : p = s <;> simp [B_is_boat_1, Lg.w, Lg.n, Lg.mov, Lg.go, neD_str (sh_str so_to) so_wait, eqD_str (sh_str so_to) so_drift, h]
  | dr p =>
    by_cases h : p = s
    · simp [B_is_boat_1, Lg.w, Lg.n, Lg.mov, Lg.go, neD_str (sh_str so_drift) so_wait, eqD_str (sh_str so_drift) so_drift, h]
    · by_cases h2 : s < p
      · have : ¬ p < s := by omega
        simp [B_is_boat_1, Lg.w, Lg.n, Lg.mov, Lg.go, neD_str (sh_str so_drift) so_wait, eqD_str (sh_str so_drift) so_drift, h, h2, this]
      · have : p < s := by omega
        simp [B_is_boat_1, Lg.w, Lg.n, Lg.mov, Lg.go, neD_str (sh_str so_drift) so_wait, eqD_str (sh_str so_drift) so_drift, h, h2, this]
  | wa p => simp [B_is_boat_1, Lg.w, Lg.n, Lg.mov, Lg.go, neD_str (sh_str so_wait) so_wait]
/-- the loop over the legs -/
theorem boat_legs (d v L : DV.D) : ∀ (gs : List Lg) (s : Int) (x4 x5 : Slot), nb x4 = true → nb x5 = true → ∃ e', eachS (asg (.cons (.name 4) (.cons (.name 5) .nil))) (evS B_is_boat_1) (gs.map Lg.d) ⟨[.val d, .val v, .val (.int s), .val L, x4, x5, .no], []⟩ = if movs s gs = true then .next e' else .ret (.bool false) e'
  | [], s, x4, x5, _, _ => ⟨_, by simp [movs]; rfl⟩
  | g :: gs, s, x4, x5, h4, h5 => by
    obtain ⟨e', ih⟩ := boat_legs d v L gs (g.go s) (.val (.str g.w)) (.val (.int g.n)) rfl rfl
    rw [List.map_cons, each_cons]
    simp [Lg.d_eq, free_nb h4, free_nb h5, movs, boat_turn]
    by_cases h : g.mov s = true
    · simp only [h, if_pos, eachB_next, ih]
      exact ⟨e', by simp⟩
    · simp [h]
theorem wholeB_iff {d : DV.D} {lo hi : Int} : wholeB d lo hi = true ↔ ∃ i : Int, d = .int i ∧ lo ≤ i ∧ i ≤ hi := by
  constructor
  · intro h
    cases d <;> simp [wholeB] at h
    exact ⟨_, rfl, h⟩
  · rintro ⟨i, rfl, h⟩
    simp [wholeB, h]
theorem boat_all (d v s : DV.D) (l : List DV.D) (hl : l.length ≤ 4) (hc : ∀ x ∈ l, SeqAt.shaped x = true) : (ev (.bi .all (.cons (.comp (.call "is_leg" F_is_leg.run (.cons (.var 6) .nil)) (.name 6) (.var 3) .no [6]) .nil))).v ⟨[.val d, .val v, .val s, .val (.tuple l), .no, .no, .no], []⟩ = .ok (.bool (l.all legB), ⟨[.val d, .val v, .val s, .val (.tuple l), .no, .no, .no], []⟩) := by
  have cm := comp_name (i := 6) (f := .call "is_leg" F_is_leg.run (.cons (.var 6) .nil)) (e := ⟨[.val d, .val v, .val s, .val (.tuple l), .no, .no, .no], []⟩) (fun d => .bool (legB d)) l rfl (by omega) (fun d hd => by simp [r_is_leg _ (hc d hd)])
  simp [cm, all_map]
theorem r_is_boat (d : DV.D) (hn : Nc 32 d) : F_is_boat.run [d] = .ok (.bool (boatB d)) := by
  have no : ∀ {l : List DV.D}, l.length ≠ 3 → boatB (.tuple l) = false := fun h => boatB_no fun b e _ => by
    unfold Bt.d at e; injection e with e; rw [e] at h; exact h rfl
  match d, hn with
  | .tuple [], _ => rw [no (by decide)]; simp [F_is_boat]
  | .tuple [a], _ => rw [no (by simp)]; simp [F_is_boat]
  | .tuple [a, b], _ => rw [no (by simp)]; simp [F_is_boat]
  | .tuple [a, b, c], hn =>
    have ha := (nc_tup.mp hn a (by simp)).shaped (by decide)
    have hb := (nc_tup.mp hn b (by simp)).shaped (by decide)
    by_cases h1 : wholeB a 1 6 = true
    · obtain ⟨v, rfl, v1, v2⟩ := wholeB_iff.mp h1
      by_cases h2 : wholeB b 0 9 = true
      · obtain ⟨s, rfl, s1, s2⟩ := wholeB_iff.mp h2
        have hc := nc_tup.mp hn c (by simp)
        cases c with
        | tuple l =>
          by_cases h3 : l.length ≤ 4
          · have h3' : ¬ (4 < (l.length : Int)) := by omega
            have st := boat_all (.tuple [.int v, .int s, .tuple l]) (.int v) (.int s) l h3 fun x hx => (nc_tup.mp hc x hx).shaped (by decide)
            by_cases h4 : l.all legB = true
            · obtain ⟨gs, rfl, hr⟩ := legs_some h4
              obtain ⟨e', lp⟩ := boat_legs (.tuple [.int v, .int s, .tuple (gs.map Lg.d)]) (.int v) (.tuple (gs.map Lg.d)) gs s .no .no rfl rfl
              rw [show boatB (.tuple [.int v, .int s, .tuple (gs.map Lg.d)]) = movs s gs by
                rw [show PyData.tuple [.int v, .int s, .tuple (gs.map Lg.d)] = Bt.d ⟨v, s, gs⟩ from rfl, boatB_d]
                have : (gs.length ≤ 4) := by simpa using h3
                simp [Bt.ok, v1, v2, s1, s2, this, hr]]
              rw [legs_all, hr] at st
              simp [F_is_boat, r_is_whole _ _ _ ha, r_is_whole _ _ _ hb, h1, h2, ↓st, lp, show ¬ (4 < (gs.length : Int)) by simpa using h3']
              by_cases h5 : movs s gs = true <;> simp [h5]
            · rw [boatB_no fun b e ok => h4 (by
                unfold Bt.d at e
                simp only [PyData.tuple.injEq, List.cons.injEq, PyData.int.injEq] at e
                rw [e.2.2.1, legs_all]; exact (b.ok_iff.mp ok).2.2.2.1)]
              simp only [Bool.not_eq_true] at h4
              rw [h4] at st
              simp [F_is_boat, r_is_whole _ _ _ ha, r_is_whole _ _ _ hb, h1, h2, ↓st, h3']
          · rw [boatB_no fun b e ok => h3 (by
                unfold Bt.d at e
                simp only [PyData.tuple.injEq, List.cons.injEq, PyData.int.injEq] at e
                rw [e.2.2.1, List.length_map]; exact (b.ok_iff.mp ok).2.2.1)]
            have h3' : 4 < (l.length : Int) := by omega
            simp [F_is_boat, r_is_whole _ _ _ ha, r_is_whole _ _ _ hb, h1, h2, h3']
        | dict l => exact (nc_dict hc).elim
        | _ =>
          rw [boatB_no fun b e ok => by
                unfold Bt.d at e
                simp only [PyData.tuple.injEq, List.cons.injEq, PyData.int.injEq] at e
                cases e.2.2.1]
          simp [F_is_boat, r_is_whole _ _ _ ha, r_is_whole _ _ _ hb, h1, h2]
      · rw [boatB_no fun b' e ok => h2 (by
                unfold Bt.d at e
                simp only [PyData.tuple.injEq, List.cons.injEq, PyData.int.injEq] at e
                rw [e.2.1]; exact wholeB_iff.mpr ⟨_, rfl, (b'.ok_iff.mp ok).2.1⟩)]
        simp [F_is_boat, r_is_whole _ _ _ ha, r_is_whole _ _ _ hb, h1, h2]
    · rw [boatB_no fun b' e ok => h1 (by
                unfold Bt.d at e
                simp only [PyData.tuple.injEq, List.cons.injEq, PyData.int.injEq] at e
                rw [e.1]; exact wholeB_iff.mpr ⟨_, rfl, (b'.ok_iff.mp ok).1⟩)]
      simp [F_is_boat, r_is_whole _ _ _ ha, h1]
  | .tuple (a :: b :: c :: f :: r), _ =>
    rw [no (by simp)]
    have : ¬ ((r.length : Int) + 1 + 1 + 1 + 1 = 3) := by omega
    simp [F_is_boat, this]
  | .list _, _ => rw [boatB_no fun b e _ => by cases e]; simp [F_is_boat]
  | .int _, _ => rw [boatB_no fun b e _ => by cases e]; simp [F_is_boat]
  | .bool _, _ => rw [boatB_no fun b e _ => by cases e]; simp [F_is_boat]
  | .str _, _ => rw [boatB_no fun b e _ => by cases e]; simp [F_is_boat]
  | .none, _ => rw [boatB_no fun b e _ => by cases e]; simp [F_is_boat]
  | .dict _, hn => exact (nc_dict hn).elim
end K02
set_option maxHeartbeats 1000000
set_option maxRecDepth 10000
namespace K02
open PySem PySem.Spec PyProof.Rows L2 DV DV.Pl
theorem waits_any (p : DV.D) (A B : Bt) : (ev (.bi .any (.cons (.comp (.and (.cmp .eq (.var 3) (.cst (.str "wait"))) (.cmp .gt (.var 4) (.bi .len (.cons (.ix (.var 2) (.cst (.int (2)))) .nil)))) (.cons (.name 3) (.cons (.name 4) .nil)) (.ix (.var 1) (.cst (.int (2)))) .no [3, 4]) .nil))).v ⟨[.val p, .val A.d, .val B.d, .no, .no], []⟩ = .ok (.bool (!(A.l.all (Lg.few B.l.length))), ⟨[.val p, .val A.d, .val B.d, .no, .no], []⟩) ∨ 16777216 < A.l.length := by
  by_cases hl : A.l.length ≤ 16777216
  · left
    have cm := comp_name2 (i := 3) (j := 4) (f := .and (.cmp .eq (.var 3) (.cst (.str "wait"))) (.cmp .gt (.var 4) (.bi .len (.cons (.ix (.var 2) (.cst (.int (2)))) .nil)))) (e := ⟨[.val p, .val A.d, .val B.d, .no, .no], []⟩) (fun g : Lg => .str g.w) (fun g => .int g.n) (fun g => .bool (!g.few B.l.length)) A.l (by decide) rfl rfl hl (fun g _ => by
      cases g with
      | to q => simp [Lg.w, Lg.n, Lg.few, Bt.d, eqD_str (sh_str so_to) so_wait]
      | dr q => simp [Lg.w, Lg.n, Lg.few, Bt.d, eqD_str (sh_str so_drift) so_wait]
      | wa q => simp [Lg.w, Lg.n, Lg.few, Bt.d, eqD_str (sh_str so_wait) so_wait, ← Int.not_lt]) [] (by simpa using hl)
    rw [← show Lg.d = fun x : Lg => PyData.tuple [.str x.w, .int x.n] from funext Lg.d_eq] at cm
    have e : A.d = .tuple [.int A.v, .int A.s, .tuple (A.l.map Lg.d)] := rfl
    rw [e] at cm ⊢
    have an := any_map (fun g : Lg => !g.few B.l.length) A.l
    rw [show (A.l.any fun g => !g.few B.l.length) = !(A.l.all (Lg.few B.l.length)) by rw [List.all_eq_not_any_not, Bool.not_not]] at an
    simp [cm, an]
  · right; omega
theorem plan_turn (p : DV.D) (A B : Bt) (hl : A.l.length ≤ 4) : evS B_is_plan_1 ⟨[.val p, .val A.d, .val B.d, .no, .no], []⟩ = if A.l.all (Lg.few B.l.length) = true then .next ⟨[.val p, .val A.d, .val B.d, .no, .no], []⟩ else .ret (.bool false) ⟨[.val p, .val A.d, .val B.d, .no, .no], []⟩ := by
  rcases waits_any p A B with h | h
  · simp only [B_is_plan_1, Pl.s_seq, Pl.s_ite, t_bi, h]
    by_cases q : A.l.all (Lg.few B.l.length) = true <;> simp [q]
  · omega
theorem boats_all (a b : DV.D) (ha : Nc 32 a) (hb : Nc 32 b) : (ev (.bi .all (.cons (.comp (.call "is_boat" F_is_boat.run (.cons (.var 1) .nil)) (.name 1) (.var 0) .no [1]) .nil))).v ⟨[.val (.tuple [a, b]), .no, .no, .no, .no], []⟩ = .ok (.bool (boatB a && boatB b), ⟨[.val (.tuple [a, b]), .no, .no, .no, .no], []⟩) := by
  have cm := comp_name (i := 1) (f := .call "is_boat" F_is_boat.run (.cons (.var 1) .nil)) (e := ⟨[.val (.tuple [a, b]), .no, .no, .no, .no], []⟩) (fun d => .bool (boatB d)) [a, b] rfl (by simp) (fun d hd => by
    have : Nc 32 d := by
      simp at hd
      rcases hd with rfl | rfl <;> assumption
    simp [r_is_boat d this])
  have al := all_map boatB [a, b]
  simp at al
  simp [cm, al]
theorem Pn.ok_iff (p : Pn) : p.ok = true ↔ p.a.ok = true ∧ p.b.ok = true ∧ p.a.l.all (Lg.few p.b.l.length) = true ∧ p.b.l.all (Lg.few p.a.l.length) = true := by
  simp only [Pn.ok, Bool.and_eq_true, and_assoc]
theorem planB_no {d : DV.D} (h : ∀ b : Pn, d = b.d → b.ok = true → False) : planB d = false := by
  cases e : planB d with
  | false => rfl
  | true => obtain ⟨p, e1, e2⟩ := planB_some e; exact (h p e1 e2).elim
theorem planB2 (a b : DV.D) : planB (.tuple [a, b]) = ((boatB a && boatB b) && (match toBt a, toBt b with
    | some A, some B => A.l.all (Lg.few B.l.length) && B.l.all (Lg.few A.l.length)
    | _, _ => false)) := by
  unfold planB boatB
  simp only [toPn]
  cases toBt a <;> cases toBt b <;> simp [Pn.ok]
theorem r_is_plan (d : DV.D) (hn : Nc 33 d) : F_is_plan.run [d] = .ok (.bool (planB d)) := by
  have no : ∀ {l : List DV.D}, l.length ≠ 2 → planB (.tuple l) = false := fun h => planB_no fun b e _ => by
    unfold Pn.d at e; injection e with e; rw [e] at h; exact h rfl
  match d, hn with
  | .tuple [], _ => rw [no (by decide)]; simp [F_is_plan]
  | .tuple [a], _ => rw [no (by simp)]; simp [F_is_plan]
  | .tuple [a, b], hn =>
    have ha := nc_tup.mp hn a (by simp)
    have hb := nc_tup.mp hn b (by simp)
    have st := boats_all a b ha hb
    by_cases h : (boatB a && boatB b) = true
    · have h' := Bool.and_eq_true_iff.mp h
      obtain ⟨A, rfl, hA⟩ := boatB_some h'.1
      obtain ⟨B, rfl, hB⟩ := boatB_some h'.2
      rw [h] at st
      have e : planB (.tuple [A.d, B.d]) = (A.l.all (Lg.few B.l.length) && B.l.all (Lg.few A.l.length)) := by
        have := planB_d ⟨A, B⟩
        simp only [Pn.ok, hA, hB, Bool.and_self, Bool.true_and] at this
        exact this
      have t1 := plan_turn (.tuple [A.d, B.d]) A B (A.ok_iff.mp hA).2.2.1
      have t2 := plan_turn (.tuple [A.d, B.d]) B A (B.ok_iff.mp hB).2.2.1
      by_cases q1 : A.l.all (Lg.few B.l.length) = true
      · rw [if_pos q1] at t1
        by_cases q2 : B.l.all (Lg.few A.l.length) = true
        · rw [if_pos q2] at t2
          rw [e, q1, q2]
          simp [F_is_plan, ↓st, revD, each_cons, t1, t2]
        · rw [if_neg q2] at t2
          rw [e, q1, Bool.eq_false_iff.mpr q2]
          simp [F_is_plan, ↓st, revD, each_cons, t1, t2]
      · rw [if_neg q1] at t1
        rw [e, Bool.eq_false_iff.mpr q1]
        simp [F_is_plan, ↓st, revD, each_cons, t1, t2]
    · simp only [Bool.not_eq_true] at h
      rw [h] at st
      rw [planB2, h]
      simp [F_is_plan, ↓st]
  | .tuple (a :: b :: c :: r), _ =>
    rw [no (by simp)]
    have : ¬ ((r.length : Int) + 1 + 1 + 1 = 2) := by omega
    simp [F_is_plan, this]
  | .list _, _ => rw [planB_no fun b e _ => by cases e]; simp [F_is_plan]
  | .int _, _ => rw [planB_no fun b e _ => by cases e]; simp [F_is_plan]
  | .bool _, _ => rw [planB_no fun b e _ => by cases e]; simp [F_is_plan]
  | .str _, _ => rw [planB_no fun b e _ => by cases e]; simp [F_is_plan]
  | .none, _ => rw [planB_no fun b e _ => by cases e]; simp [F_is_plan]
  | .dict _, hn => exact (nc_dict hn).elim
end K02
set_option maxHeartbeats 1000000
set_option maxRecDepth 10000
namespace K02
open PySem PySem.Spec PyProof.Rows L2 DV DV.Pl
def hd0 (l : List Int) : Int := l.headD 0
theorem r_law_take (bag : List Int) (m : Int) (hm : m ≠ 0) : F_law_take.runB (zs bag) [.int m] = .ok (.int ((hd0 bag).fmod m), zs bag.tail) := by
  cases bag with
  | nil => simp [F_law_take, hd0, modD_int hm]
  | cons a l =>
    have := sh_zs (a :: l)
    rw [zs_cons] at this
    simp [F_law_take, hd0, modD_int hm, this]
/-- a draw below m -/
theorem take_lt {bag : List Int} {m : Int} (hm : 0 < m) : 0 ≤ (hd0 bag).fmod m ∧ (hd0 bag).fmod m < m := by
  rw [fmod_pos hm]
  exact ⟨Int.emod_nonneg _ (by omega), Int.emod_lt_of_pos _ hm⟩
theorem r_law_choice (bag : List Int) (l : List DV.D) (hl : l ≠ []) : ∃ x ∈ l, F_law_choice.runB (zs bag) [.list l] = .ok (x, zs bag.tail) := by
  have hp : 0 < (l.length : Int) := by
    cases l with
    | nil => exact absurd rfl hl
    | cons a r => simp only [List.length_cons]; omega
  have t := take_lt (bag := bag) hp
  have hi : ((hd0 bag).fmod (l.length : Int)).toNat < l.length := by omega
  refine ⟨l[((hd0 bag).fmod (l.length : Int)).toNat], List.getElem_mem hi, ?_⟩
  have e := ix_lst (l := l) t.1 (List.getElem?_eq_getElem hi)
  simp [F_law_choice, r_law_take bag (l.length : Int) (by omega), e]
/-! the draws -/
theorem r_law_cell (ns : List Int) (k : Int) (h0 : 0 ≤ k) (hk : k < 1000) : ∃ z : Int, F_law_cell.run [scr (zs ns), .int k] = .ok (.int z) := by
  by_cases h : k < (ns.length : Int)
  · have hi : k.toNat < ns.length := by omega
    have e := ix_scr (l := zs ns) (x := .int ns[k.toNat]) h0 (by rw [zs_get, List.getElem?_eq_getElem hi]; rfl)
    exact ⟨ns[k.toNat], by simp [F_law_cell, h, e]⟩
  · by_cases hz : ns.length = 0
    · have : ns = [] := List.eq_nil_of_length_eq_zero hz
      subst this
      refine ⟨7919 * k + 101, ?_⟩
      have : ¬ k < 0 := by omega
      simp [F_law_cell, this, mulD_64 (i := 7919) (j := k) (by decide) (by omega)]
    · have hp : 0 < (ns.length : Int) := by omega
      have t1 : 0 ≤ k.fmod (ns.length : Int) := by rw [fmod_pos hp]; exact Int.emod_nonneg _ (by omega)
      have t2 : k.fmod (ns.length : Int) < (ns.length : Int) := by rw [fmod_pos hp]; exact Int.emod_lt_of_pos _ hp
      have hi : (k.fmod (ns.length : Int)).toNat < ns.length := by omega
      have e := ix_scr (l := zs ns) (x := .int ns[(k.fmod (ns.length : Int)).toNat]) t1 (by rw [zs_get, List.getElem?_eq_getElem hi]; rfl)
      have hn : ((ns.length : Int) ≠ 0) := by omega
      have hn' : ns ≠ [] := fun z => hz (by rw [z]; rfl)
      exact ⟨ns[(k.fmod (ns.length : Int)).toNat].fmod 1000003 + 7919 * k, by simp [F_law_cell, h, hn', modD_int hn, e, modD_int (j := 1000003) (by decide), mulD_64 (i := 7919) (j := k) (by decide) (by omega)]⟩
def primes : DV.D := .tuple [.int 2147483647, .int 2147483629, .int 2147483587, .int 2147483579, .int 2147483563, .int 2147483549, .int 2147483543, .int 2147483497]
theorem prime_at {i : Int} (h0 : 0 ≤ i) (h8 : i < 8) : ∃ p : Int, ixD primes (.int i) = .ok (.int p) ∧ 0 < p ∧ p < 2147483648 := by
  have : i = 0 ∨ i = 1 ∨ i = 2 ∨ i = 3 ∨ i = 4 ∨ i = 5 ∨ i = 6 ∨ i = 7 := by omega
  rcases this with rfl | rfl | rfl | rfl | rfl | rfl | rfl | rfl <;> exact ⟨_, ix_tup (by decide) rfl, by decide, by decide⟩
theorem mod_lt {a p : Int} (h : 0 < p) (k : p < 2147483648) : 0 ≤ a.fmod p ∧ a.fmod p < 2147483648 := by
  rw [fmod_pos h]
  have := Int.emod_nonneg a (b := p) (by omega)
  have := Int.emod_lt_of_pos a h
  omega
theorem mul_lt {a b : Int} {A B : Nat} (ha : 0 ≤ a) (hb : 0 ≤ b) (h1 : a < A) (h2 : b < B) : 0 ≤ a * b ∧ a * b < ((A * B : Nat) : Int) := by
  refine ⟨Int.mul_nonneg ha hb, ?_⟩
  obtain ⟨x, rfl⟩ := Int.eq_ofNat_of_zero_le ha
  obtain ⟨y, rfl⟩ := Int.eq_ofNat_of_zero_le hb
  have h1 : x < A := by omega
  have h2 : y < B := by omega
  have : x * y < A * B := Nat.mul_lt_mul_of_lt_of_le h1 (Nat.le_of_lt h2) (by omega)
  rw [← Int.natCast_mul]
  omega
theorem draws_turn (S M : DV.D) (k b cell rest j : Int) (row : List Int) (x : Slot) (hx : nb x = true) (k0 : 0 ≤ k) (k1 : k < 1000) (b0 : 0 < b) (b1 : b < 2147483648) (j0 : 0 ≤ j) (j1 : j < 1000) (hr : row.length < 16777216) :
    ∃ rest' v y, 0 ≤ v ∧ v < b ∧ nb y = true ∧ evS B_law_draws_1 ⟨[.val S, .val (.int k), .val M, .val (.int b), .val primes, .val (.int cell), .val (.int rest), .own (zs row), .val (.int j), x], []⟩ = .next ⟨[.val S, .val (.int k), .val M, .val (.int b), .val primes, .val (.int cell), .val (.int rest'), .own (zs (row ++ [v])), .val (.int j), y], []⟩ := by
  obtain ⟨p1, e1, q1, q1'⟩ := prime_at (i := j.fmod 8) (by rw [fmod_pos (by decide)]; omega) (by rw [fmod_pos (by decide)]; omega)
  obtain ⟨p2, e2, q2, q2'⟩ := prime_at (i := (3 * j + k).fmod 8) (by rw [fmod_pos (by decide)]; omega) (by rw [fmod_pos (by decide)]; omega)
  obtain ⟨p3, e3, q3, q3'⟩ := prime_at (i := (j + 5).fmod 8) (by rw [fmod_pos (by decide)]; omega) (by rw [fmod_pos (by decide)]; omega)
  have c1 := mod_lt (a := cell) q1 q1'
  have jj := mul_lt (a := 2 * j) (b := j) (A := 2000) (B := 1000) (by omega) j0 (by omega) (by omega)
  have m1 := mul_lt (a := cell.fmod p1) (b := 48271 + 2 * j * j) (A := 2147483648) (B := 3000000) c1.1 (by omega) (by omega) (by omega)
  have g1 := mul_lt (a := 7919 * (j + 1)) (b := j + 1) (A := 7927000) (B := 1001) (by omega) (by omega) (by omega) (by omega)
  generalize hA : cell.fmod p1 * (48271 + 2 * j * j) + 7919 * (j + 1) * (j + 1) + 104729 * k = A
  have c2 := mod_lt (a := A) q2 q2'
  have m2 := mul_lt (a := A.fmod p2) (b := A.fmod p2) (A := 2147483648) (B := 2147483648) c2.1 c2.1 (by omega) (by omega)
  generalize hB : (A.fmod p2 * A.fmod p2 * A.fmod p2).fmod p3 = B
  have mm : ∀ z : Int, 0 ≤ z.fmod b ∧ z.fmod b < b := fun z => by
    rw [fmod_pos b0]
    exact ⟨Int.emod_nonneg _ (by omega), Int.emod_lt_of_pos _ b0⟩
  refine ⟨rest.fdiv b, (if 0 < rest then rest else B).fmod b, .val (.int (if 0 < rest then rest else B)), (mm _).1, (mm _).2, rfl, ?_⟩
  by_cases hrest : 0 < rest
  · simp [B_law_draws_1, modD_int (j := 8) (by decide), e1, modD_int (j := p1) (by omega), free_nb hx, mulD_64 (i := 2) (j := j) (by decide) (by omega), mulD_64 (i := 2 * j) (j := j) (by omega) (by omega), mulD_64 (i := cell.fmod p1) (j := 48271 + 2 * j * j) (by omega) (by omega),
      mulD_64 (i := 7919) (j := j + 1) (by decide) (by omega), mulD_64 (i := 7919 * (j + 1)) (j := j + 1) (by omega) (by omega), mulD_64 (i := 104729) (j := k) (by decide) (by omega), hA, mulD_64 (i := 3) (j := j) (by decide) (by omega), e2, modD_int (j := p2) (by omega),
      mulD_64 (i := A.fmod p2) (j := A.fmod p2) (by omega) (by omega), mulD_64 (i := A.fmod p2 * A.fmod p2) (j := A.fmod p2) (by omega) (by omega), e3, modD_int (j := p3) (by omega), hB, hrest, modD_int (j := b) (by omega) , hr, divD_64 (j := b) (by omega) (by omega)]
  · simp [B_law_draws_1, modD_int (j := 8) (by decide), e1, modD_int (j := p1) (by omega), free_nb hx, mulD_64 (i := 2) (j := j) (by decide) (by omega), mulD_64 (i := 2 * j) (j := j) (by omega) (by omega), mulD_64 (i := cell.fmod p1) (j := 48271 + 2 * j * j) (by omega) (by omega),
      mulD_64 (i := 7919) (j := j + 1) (by decide) (by omega), mulD_64 (i := 7919 * (j + 1)) (j := j + 1) (by omega) (by omega), mulD_64 (i := 104729) (j := k) (by decide) (by omega), hA, mulD_64 (i := 3) (j := j) (by decide) (by omega), e2, modD_int (j := p2) (by omega),
      mulD_64 (i := A.fmod p2) (j := A.fmod p2) (by omega) (by omega), mulD_64 (i := A.fmod p2 * A.fmod p2) (j := A.fmod p2) (by omega) (by omega), e3, modD_int (j := p3) (by omega), hB, hrest, modD_int (j := b) (by omega) , hr, divD_64 (j := b) (by omega) (by omega)]
/-- the draws: so many below b -/
structure Bag (b : Int) (n : Nat) (l : List Int) : Prop where
  len : l.length = n
  low : ∀ x ∈ l, 0 ≤ x ∧ x < b
theorem draws_loop (S M : DV.D) (k b cell : Int) (k0 : 0 ≤ k) (k1 : k < 1000) (b0 : 0 < b) (b1 : b < 2147483648) : ∀ (n : Nat) (j rest : Int) (row : List Int) (x y : Slot), nb x = true → nb y = true → 0 ≤ j → j + n ≤ 1000 → row.length + n ≤ 2000 → (∀ v ∈ row, 0 ≤ v ∧ v < b) →
    ∃ rest' row' x' y', (∀ v ∈ row', 0 ≤ v ∧ v < b) ∧ row'.length = row.length + n ∧ eachS (asg (.name 8)) (evS B_law_draws_1) (rngL j n) ⟨[.val S, .val (.int k), .val M, .val (.int b), .val primes, .val (.int cell), .val (.int rest), .own (zs row), y, x], []⟩ = .next ⟨[.val S, .val (.int k), .val M, .val (.int b), .val primes, .val (.int cell), .val (.int rest'), .own (zs row'), y', x'], []⟩
  | 0, j, rest, row, x, y, hx, hy, j0, j1, hl, hr => ⟨rest, row, x, y, hr, rfl, rfl⟩
  | n + 1, j, rest, row, x, y, hx, hy, j0, j1, hl, hr => by
    obtain ⟨rest', v, z, v0, v1, hz, t⟩ := draws_turn S M k b cell rest j row x hx k0 k1 b0 b1 j0 (by omega) (by omega)
    have hrow : ∀ w ∈ row ++ [v], 0 ≤ w ∧ w < b := fun w hw => by
      rcases List.mem_append.mp hw with h | h
      · exact hr w h
      · simp at h; subst h; exact ⟨v0, v1⟩
    obtain ⟨r2, row2, x2, y2, h1, h2, h3⟩ := draws_loop S M k b cell k0 k1 b0 b1 n (j + 1) rest' (row ++ [v]) z (.val (.int j)) hz rfl (by omega) (by omega) (by simp; omega) hrow
    refine ⟨r2, row2, x2, y2, h1, by rw [h2]; simp; omega, ?_⟩
    show eachS _ _ (.int j :: rngL (j + 1) n) _ = _
    rw [each_cons]
    simp only [asg_name, free_s, free_nb hy, if_pos, put_def, List.set_cons_succ, List.set_cons_zero, Out.so_ok, r_ceachC, t, eachB_next, h3]
theorem pow18 : powD (.int 10) (.int 18) = .ok (.int 1000000000000000000) := by
  unfold powD
  simp only
  rw [if_pos (by decide)]
  rfl
theorem r_law_draws (ns : List Int) (k b : Int) (n : Nat) (k0 : 0 ≤ k) (k1 : k < 1000) (b0 : 0 < b) (b1 : b < 2147483648) (hn : n ≤ 1000) : ∃ l, Bag b n l ∧ F_law_draws.runF [scr (zs ns), .int k, .int (n : Int), .int b] = .ok (zs l) := by
  obtain ⟨z, hz⟩ := r_law_cell ns k k0 k1
  have rg := rngD_ok (n := n) (by omega)
  have pw := pow18
  by_cases h : 1000000000000000000 ≤ z
  · obtain ⟨rest', l, x', y', h1, h2, h3⟩ := draws_loop (scr (zs ns)) (.int (n : Int)) k b z k0 k1 b0 b1 n 0 z [] .no .no rfl rfl (by decide) (by omega) (by simp; omega) (by simp)
    refine ⟨l, ⟨by simpa using h2, h1⟩, ?_⟩
    rw [zs_nil] at h3
    unfold primes at h3
    simp [F_law_draws, hz, rg, pw, h, h3]
  · obtain ⟨rest', l, x', y', h1, h2, h3⟩ := draws_loop (scr (zs ns)) (.int (n : Int)) k b z k0 k1 b0 b1 n 0 0 [] .no .no rfl rfl (by decide) (by omega) (by simp; omega) (by simp)
    refine ⟨l, ⟨by simpa using h2, h1⟩, ?_⟩
    rw [zs_nil] at h3
    unfold primes at h3
    simp [F_law_draws, hz, rg, pw, h, h3]
theorem r_law_bag (ns : List Int) (k : Int) (k0 : 0 ≤ k) (k1 : k < 1000) : ∃ l, Bag 27720 150 l ∧ F_law_bag.runF [scr (zs ns), .int k] = .ok (zs l) := by
  obtain ⟨l, hl, h⟩ := r_law_draws ns k 27720 150 k0 k1 (by decide) (by decide) (by decide)
  refine ⟨l, hl, ?_⟩
  rw [show ((150 : Nat) : Int) = 150 from rfl] at h
  simp [F_law_bag, h]
end K02
set_option maxHeartbeats 1000000
set_option maxRecDepth 10000
namespace K02
open PySem PySem.Spec PyProof.Rows L2 DV DV.Pl
theorem addT (x y : List DV.D) (h : x.length + y.length ≤ 16777216) : addD (.tuple x) (.tuple y) = .ok (.tuple (x ++ y)) := by
  unfold addD; simp only; rw [if_pos h]
theorem legs_turn (bag : List Int) (M S T : DV.D) (ot s : Int) (gs : List Lg) (x : Slot) (hx : nb x = true) (o0 : 0 ≤ ot) (o4 : ot ≤ 4) (s0 : 0 ≤ s) (s9 : s ≤ 9) (hg : gs.length ≤ 100) :
    ∃ g bag' w, g.rng = true ∧ g.mov s = true ∧ g.few ot.toNat = true ∧ 0 ≤ g.go s ∧ g.go s ≤ 9 ∧ evS B_law_legs_1 ⟨[.bag (zs bag), .val M, .val (.int ot), .val S, .val T, .val (.tuple (gs.map Lg.d)), .val (.int s), x], []⟩ = .next ⟨[.bag (zs bag'), .val M, .val (.int ot), .val S, .val T, .val (.tuple ((gs ++ [g]).map Lg.d)), .val (.int (g.go s)), .val w], []⟩ := by
  have t := take_lt (bag := bag) (m := 6) (by decide)
  have tk := r_law_take bag 6 (by decide)
  have ad : ∀ y : DV.D, addD (.tuple (gs.map Lg.d)) (.tuple [y]) = .ok (.tuple (gs.map Lg.d ++ [y])) := fun y => addT _ _ (by simp; omega)
  generalize (hd0 bag).fmod 6 = w at t tk
  by_cases h1 : w = 0 ∧ 0 < ot
  · obtain ⟨rfl, h1⟩ := h1
    have t2 := take_lt (bag := bag.tail) (m := ot) h1
    have tk2 := r_law_take bag.tail ot (by omega)
    generalize (hd0 bag.tail).fmod ot = v at t2 tk2
    refine ⟨.wa (1 + v), bag.tail.tail, .int 0, by simp [Lg.rng]; omega, rfl, by simp [Lg.few]; omega, s0, s9, ?_⟩
    simp [B_law_legs_1, tk, free_nb hx, h1, tk2, ad, Lg.d, Lg.go]
  · by_cases h2 : w = 1 ∧ 0 < s
    · obtain ⟨rfl, h2⟩ := h2
      have t2 := take_lt (bag := bag.tail) (m := s) h2
      have tk2 := r_law_take bag.tail s (by omega)
      generalize (hd0 bag.tail).fmod s = v at t2 tk2
      refine ⟨.dr v, bag.tail.tail, .int 1, by simp [Lg.rng]; omega, by simp [Lg.mov]; omega, rfl, t2.1, by simp only [Lg.go]; omega, ?_⟩
      simp [B_law_legs_1, tk, free_nb hx, h2, tk2, ad, Lg.d, Lg.go]
    · have t2 := take_lt (bag := bag.tail) (m := 9) (by decide)
      have tk2 := r_law_take bag.tail 9 (by decide)
      generalize (hd0 bag.tail).fmod 9 = v at t2 tk2
      have fm : (s + 1 + v).fmod 10 = (s + 1 + v) % 10 := fmod_pos (by decide)
      refine ⟨.to ((s + 1 + v).fmod 10), bag.tail.tail, .int w, by simp [Lg.rng, fm]; omega, by simp [Lg.mov, fm]; omega, rfl, by simp only [Lg.go, fm]; omega, by simp only [Lg.go, fm]; omega, ?_⟩
      by_cases q1 : w = 0
      · have q2 : ¬ 0 < ot := fun z => h1 ⟨q1, z⟩
        subst q1
        simp [B_law_legs_1, tk, free_nb hx, q2, tk2, ad, Lg.d, Lg.go, modD_int (j := 10) (by decide)]
      · by_cases q3 : w = 1
        · have q4 : ¬ 0 < s := fun z => h2 ⟨q3, z⟩
          subst q3
          simp [B_law_legs_1, tk, free_nb hx, q4, tk2, ad, Lg.d, Lg.go, modD_int (j := 10) (by decide)]
        · simp [B_law_legs_1, tk, free_nb hx, q1, q3, tk2, ad, Lg.d, Lg.go, modD_int (j := 10) (by decide)]
def goes (s : Int) : List Lg → Int
  | [] => s
  | g :: r => goes (g.go s) r
theorem goes_app (g : Lg) : ∀ (gs : List Lg) (s : Int), goes s (gs ++ [g]) = g.go (goes s gs)
  | [], s => rfl
  | x :: gs, s => by simp only [List.cons_append, goes, goes_app g gs]
theorem movs_app (g : Lg) : ∀ (gs : List Lg) (s : Int), movs s (gs ++ [g]) = (movs s gs && g.mov (goes s gs))
  | [], s => by simp [movs, goes]
  | x :: gs, s => by simp only [List.cons_append, movs, goes, movs_app g gs, Bool.and_assoc]
theorem legs_loop (M T : DV.D) (ot s0 : Int) (o0 : 0 ≤ ot) (o4 : ot ≤ 4) : ∀ (n : Nat) (j : Int) (bag : List Int) (gs : List Lg) (x y : Slot), nb x = true → nb y = true → gs.length + n ≤ 100 → gs.all Lg.rng = true → movs s0 gs = true → gs.all (Lg.few ot.toNat) = true → 0 ≤ goes s0 gs → goes s0 gs ≤ 9 →
    ∃ gs' bag' x' y', gs'.length = gs.length + n ∧ gs'.all Lg.rng = true ∧ movs s0 gs' = true ∧ gs'.all (Lg.few ot.toNat) = true ∧ eachS (asg (.name 4)) (evS B_law_legs_1) (rngL j n) ⟨[.bag (zs bag), .val M, .val (.int ot), .val T, y, .val (.tuple (gs.map Lg.d)), .val (.int (goes s0 gs)), x], []⟩ = .next ⟨[.bag (zs bag'), .val M, .val (.int ot), .val T, y', .val (.tuple (gs'.map Lg.d)), .val (.int (goes s0 gs')), x'], []⟩
  | 0, j, bag, gs, x, y, hx, hy, hl, h1, h2, h3, h4, h5 => ⟨gs, bag, x, y, rfl, h1, h2, h3, rfl⟩
  | n + 1, j, bag, gs, x, y, hx, hy, hl, h1, h2, h3, h4, h5 => by
    obtain ⟨g, bag', w, g1, g2, g3, g4, g5, t⟩ := legs_turn bag M T (.int j) ot (goes s0 gs) gs x hx o0 o4 h4 h5 (by omega)
    obtain ⟨gs2, bag2, x2, y2, a1, a2, a3, a4, ih⟩ := legs_loop M T ot s0 o0 o4 n (j + 1) bag' (gs ++ [g]) (.val w) (.val (.int j)) rfl rfl (by simp; omega) (by simp only [List.all_append, h1, List.all_cons, g1, List.all_nil, Bool.and_self]) (by rw [movs_app, h2, g2]; rfl) (by simp only [List.all_append, h3, List.all_cons, g3, List.all_nil, Bool.and_self]) (by rw [goes_app]; exact g4) (by rw [goes_app]; exact g5)
    refine ⟨gs2, bag2, x2, y2, by rw [a1]; simp; omega, a2, a3, a4, ?_⟩
    rw [goes_app] at ih
    show eachS _ _ (.int j :: rngL (j + 1) n) _ = _
    rw [each_cons]
    simp only [asg_name, free_s, free_nb hy, if_pos, put_def, List.set_cons_succ, List.set_cons_zero, Out.so_ok, r_ceachC, t, eachB_next, ih]
theorem r_law_legs (bag : List Int) (n : Nat) (ot s : Int) (hn : n ≤ 100) (o0 : 0 ≤ ot) (o4 : ot ≤ 4) (s0 : 0 ≤ s) (s9 : s ≤ 9) : ∃ gs bag', gs.length = n ∧ gs.all Lg.rng = true ∧ movs s gs = true ∧ gs.all (Lg.few ot.toNat) = true ∧ F_law_legs.runB (zs bag) [.int (n : Int), .int ot, .int s] = .ok (.tuple (gs.map Lg.d), zs bag') := by
  obtain ⟨gs, bag', x', y', a1, a2, a3, a4, h⟩ := legs_loop (.int (n : Int)) (.int s) ot s o0 o4 n 0 bag [] .no .no rfl rfl (by simpa using hn) rfl rfl rfl s0 s9
  have rg := rngD_ok (n := n) (by omega)
  refine ⟨gs, bag', by simpa using a1, a2, a3, a4, ?_⟩
  simp only [List.map_nil, goes] at h
  simp [F_law_legs, rg, h]
theorem r_law_plan (bag : List Int) : ∃ (p : Pn) (bag' : List Int), p.ok = true ∧ 1 ≤ p.a.l.length ∧ 1 ≤ p.b.l.length ∧ F_law_plan.runB (zs bag) [.int 4] = .ok (p.d, zs bag') := by
  have t1 := take_lt (bag := bag) (m := 4) (by decide)
  have k1 := r_law_take bag 4 (by decide)
  generalize (hd0 bag).fmod 4 = m1 at t1 k1
  generalize bag.tail = b1 at k1
  have t2 := take_lt (bag := b1) (m := 4) (by decide)
  have k2 := r_law_take b1 4 (by decide)
  generalize (hd0 b1).fmod 4 = m2 at t2 k2
  generalize b1.tail = b2 at k2
  have t3 := take_lt (bag := b2) (m := 10) (by decide)
  have k3 := r_law_take b2 10 (by decide)
  generalize (hd0 b2).fmod 10 = s1 at t3 k3
  generalize b2.tail = b3 at k3
  have t4 := take_lt (bag := b3) (m := 10) (by decide)
  have k4 := r_law_take b3 10 (by decide)
  generalize (hd0 b3).fmod 10 = s2 at t4 k4
  generalize b3.tail = b4 at k4
  have t5 := take_lt (bag := b4) (m := 6) (by decide)
  have k5 := r_law_take b4 6 (by decide)
  generalize (hd0 b4).fmod 6 = v1 at t5 k5
  generalize b4.tail = b5 at k5
  obtain ⟨g1, b6, l1, l2, l3, l4, k6⟩ := r_law_legs b5 (1 + m1).toNat (1 + m2) s1 (by omega) (by omega) (by omega) (by omega) (by omega)
  have t7 := take_lt (bag := b6) (m := 6) (by decide)
  have k7 := r_law_take b6 6 (by decide)
  generalize (hd0 b6).fmod 6 = v2 at t7 k7
  generalize b6.tail = b7 at k7
  obtain ⟨g2, b8, e1, e2, e3, e4, k8⟩ := r_law_legs b7 (1 + m2).toNat (1 + m1) s2 (by omega) (by omega) (by omega) (by omega) (by omega)
  rw [show (((1 + m1).toNat : Nat) : Int) = 1 + m1 by omega] at k6
  rw [show (((1 + m2).toNat : Nat) : Int) = 1 + m2 by omega] at k8
  refine ⟨⟨⟨1 + v1, s1, g1⟩, ⟨1 + v2, s2, g2⟩⟩, b8, ?_, by show 1 ≤ g1.length; omega, by show 1 ≤ g2.length; omega, ?_⟩
  · rw [Pn.ok_iff', Bt.ok_iff, Bt.ok_iff]
    exact ⟨⟨by simp only; omega, by simp only; omega, by simp only; omega, l2, l3⟩, ⟨by simp only; omega, by simp only; omega, by simp only; omega, e2, e3⟩, by simp only [e1]; exact l4, by simp only [l1]; exact e4⟩
  · simp [F_law_plan, k1, k2, k3, k4, k5, k6, k7, k8, Pn.d, Bt.d]
end K02
set_option maxHeartbeats 1000000
set_option maxRecDepth 10000
namespace K02
open PySem PySem.Spec PyProof.Rows L2 DV DV.Pl
theorem beq_nat0 (y : Nat) : ((y : Int) == 0) = decide (y = 0) := by
  by_cases h : y = 0 <;> simp [h]
theorem r_divisor_of (k : Nat) (a b : Int) (hk : 2 * k + 1 ≤ 1000000) (hb : b.natAbs < 2 ^ k) : F_divisor_of.run [.int a, .int b] = .ok (.int ((Int.gcd a b : Nat) : Int)) := by
  have lp := gcd_loop (c := (ev (.cmp .ne (.var 1) (.cst (.int 0)))).t) (b := evS B_divisor_of_1) (fun x y => ⟨[.val (.int x), .val (.int y)], []⟩) (fun x y => by simp [beq_nat0]) (fun x y hy => by simp [B_divisor_of_1, modD_int (j := (y : Int)) (by omega), fmod_nat]) k 1000000 a.natAbs b.natAbs hb hk
  simp [F_divisor_of, abs_if, lp, evT]
  rfl
theorem r_law_lowest {k : Nat} {a b : Int} (h0 : b ≠ 0) (ha : Sm k a) (hb : Sm k b) (hk : k ≤ 8000) : F_law_lowest.run [.int a, .int b] = .ok (if 0 < b then fr a b else fr (-a) (-b)) := by
  have lp := gcd_loop (c := (ev (.cmp .ne (.var 4) (.cst (.int 0)))).t) (b := evS B_law_lowest_1) (fun x y => ⟨[.val (.int a), .val (.int b), .no, .val (.int x), .val (.int y)], []⟩) (fun x y => by simp [beq_nat0]) (fun x y hy => by simp [B_law_lowest_1, modD_int (j := (y : Int)) (by omega), fmod_nat]) k 1000000 a.natAbs b.natAbs hb (by omega)
  have hg : 0 < Nat.gcd a.natAbs b.natAbs := Nat.gcd_pos_of_pos_right _ (by omega)
  have hg2 : Nat.gcd a.natAbs b.natAbs ≤ b.natAbs := Nat.gcd_le_right _ (by omega)
  have sg : Sm k ((Nat.gcd a.natAbs b.natAbs : Nat) : Int) := Nat.lt_of_le_of_lt hg2 hb
  have d1 := fun i => divD_sm (i := i) (j := ((Nat.gcd a.natAbs b.natAbs : Nat) : Int)) (by omega) sg (by omega)
  have e1 : ∀ i : Int, i.fdiv ((Nat.gcd a.natAbs b.natAbs : Nat) : Int) = i / ((Nat.gcd a.natAbs b.natAbs : Nat) : Int) := fun i => fdiv_pos (by omega)
  simp only [e1] at d1
  have e2 : ((Int.gcd a b : Nat) : Int) = ((Nat.gcd a.natAbs b.natAbs : Nat) : Int) := rfl
  have m1 := mulD_sm (k := 1) (l := k) (i := 1) (j := a) (by unfold Sm; decide) ha (by omega)
  have m2 := mulD_sm (k := 1) (l := k) (i := 1) (j := b) (by unfold Sm; decide) hb (by omega)
  have m3 := mulD_sm (k := 1) (l := k) (i := -1) (j := a) (by unfold Sm; decide) ha (by omega)
  have m4 := mulD_sm (k := 1) (l := k) (i := -1) (j := b) (by unfold Sm; decide) hb (by omega)
  rw [Int.one_mul] at m1 m2
  rw [Int.neg_one_mul] at m3 m4
  by_cases h : 0 < b
  · simp [F_law_lowest, abs_if, lp, evT, h, m1, m2, d1, fr, e2]
  · simp [F_law_lowest, abs_if, lp, evT, h, m3, m4, d1, fr, e2, Int.gcd_neg, Int.neg_gcd]
theorem r_lowest {k : Nat} {a b : Int} (h0 : b ≠ 0) (hb : Sm k b) (hk : k ≤ 8000) : F_lowest.run [.int a, .int b] = .ok (fr a b) := by
  have hg2 : Int.gcd a b ≤ b.natAbs := Int.gcd_le_natAbs_right _ h0
  have hg : 0 < Int.gcd a b := Int.gcd_pos_of_ne_zero_right _ h0
  have sg : Sm k ((Int.gcd a b : Nat) : Int) := Nat.lt_of_le_of_lt hg2 hb
  have d1 := fun i => divD_sm (i := i) (j := ((Int.gcd a b : Nat) : Int)) (by omega) sg (by omega)
  have e1 : ∀ i : Int, i.fdiv ((Int.gcd a b : Nat) : Int) = i / ((Int.gcd a b : Nat) : Int) := fun i => fdiv_pos (by omega)
  simp only [e1] at d1
  simp [F_lowest, r_divisor_of k a b (by omega) hb, d1, fr]
theorem r_is_fraction (k : Nat) (a b : Int) (hk : 2 * k + 1 ≤ 1000000) (hb : b.natAbs < 2 ^ k) : F_is_fraction.run [.tuple [.int a, .int b]] = .ok (.bool (decide (0 < b) && decide (Int.gcd a b = 1))) := by
  have e : (((Int.gcd a b : Nat) : Int) == 1) = decide (Int.gcd a b = 1) := by
    by_cases h : Int.gcd a b = 1
    · rw [h]; rfl
    · have : ¬ (((Int.gcd a b : Nat) : Int) = 1) := by omega
      simp [h, this]
  by_cases h : 0 < b
  · simp [F_is_fraction, r_is_plain, plainB, r_divisor_of k a b hk hb, h, e]
  · simp [F_is_fraction, r_is_plain, plainB, h]
def Pn.v (p : Pn) : Int := if p.b.v < p.a.v then p.b.v else p.a.v
theorem r_slowest (p : Pn) : F_slowest.run [p.d] = .ok (.int (Pn.v p)) := by
  simp [F_slowest, Pn.d, Bt.d, Pn.v]
theorem Pn.v_ok {p : Pn} (h : p.ok = true) : 1 ≤ Pn.v p ∧ Pn.v p ≤ 6 := by
  have h := (Pn.ok_iff' p).mp h
  have a := ((Bt.ok_iff _).mp h.1).1
  have b := ((Bt.ok_iff _).mp h.2.1).1
  unfold Pn.v
  split <;> omega
theorem r_need_plan (d : DV.D) (hn : Nc 33 d) : F_need_plan.run [d] = if planB d = true then .ok .none else .err "InvalidPlan" := by
  by_cases h : planB d = true <;> simp [F_need_plan, r_is_plan d hn, h]
/-- is a flow below v? -/
def belowB (v a b : Int) : Bool := (decide (0 < b) && decide (Int.gcd a b = 1)) && (decide (0 < a) && decide (a < v * b))
theorem r_is_below (k : Nat) (a b v : Int) (hk : 2 * k + 1 ≤ 1000000) (hb : b.natAbs < 2 ^ k) (hv : v.natAbs < 1000) (hk2 : k ≤ 64) : F_is_below.run [.tuple [.int a, .int b], .int v] = .ok (.bool (belowB v a b)) := by
  have hb2 : b.natAbs < 18446744073709551616 := Nat.lt_of_lt_of_le hb (Nat.pow_le_pow_right (n := 2) (by decide) hk2)
  have m := mulD_64 (i := v) (j := b) (by omega) hb2
  simp [F_is_below, r_is_fraction k a b hk hb, m, belowB]
  by_cases h1 : 0 < b <;> by_cases h2 : Int.gcd a b = 1 <;> by_cases h3 : 0 < a <;> simp [h1, h2, h3]
theorem pow7 : powD (.int 10) (.int 7) = .ok (.int 10000000) := by
  unfold powD
  simp only
  rw [if_pos (by decide)]
  rfl
theorem r_law_mixed (bag : List Int) (p : Pn) (hp : p.ok = true) : ∃ a b bag', belowB (Pn.v p) a b = true ∧ b.natAbs < 2 ^ 24 ∧ F_law_mixed.runB (zs bag) [p.d] = .ok (.tuple [.int a, .int b], zs bag') := by
  have hv := Pn.v_ok hp
  obtain ⟨x, hx, k1⟩ := r_law_choice bag [.int 30, .int 500, .int 10000000] (by simp)
  obtain ⟨w, rfl, w0, w1⟩ : ∃ w : Int, x = .int w ∧ 0 < w ∧ w ≤ 10000000 := by
    simp at hx
    rcases hx with rfl | rfl | rfl <;> exact ⟨_, rfl, by decide, by decide⟩
  generalize bag.tail = b1 at k1
  have t2 := take_lt (bag := b1) w0
  have k2 := r_law_take b1 w (by omega)
  generalize (hd0 b1).fmod w = z at t2 k2
  generalize b1.tail = b2 at k2
  have hB : 0 < Pn.v p * (2 + z) - 1 ∧ Pn.v p * (2 + z) < 70000000 := by
    have : Pn.v p = 1 ∨ Pn.v p = 2 ∨ Pn.v p = 3 ∨ Pn.v p = 4 ∨ Pn.v p = 5 ∨ Pn.v p = 6 := by omega
    rcases this with h | h | h | h | h | h <;> rw [h] <;> omega
  have t3 := take_lt (bag := b2) hB.1
  have k3 := r_law_take b2 (Pn.v p * (2 + z) - 1) (by omega)
  generalize (hd0 b2).fmod (Pn.v p * (2 + z) - 1) = t at t3 k3
  have lw := r_law_lowest (k := 63) (a := 1 + t) (b := 2 + z) (by omega) (by unfold Sm; omega) (by unfold Sm; omega) (by decide)
  rw [if_pos (by omega)] at lw
  have m := mulD_64 (i := Pn.v p) (j := 2 + z) (by omega) (by omega)
  obtain ⟨g, a, b, g0, ea, eb, da, db, cp, eg⟩ := low_parts (a := 1 + t) (b := 2 + z) (by omega)
  unfold fr at lw
  rw [da, db] at lw
  refine ⟨a, b, b2.tail, ?_, ?_, ?_⟩
  · have a0 : 0 < a := Int.pos_of_mul_pos_right (by omega) g0
    have b0 : 0 < b := Int.pos_of_mul_pos_right (a := g) (by omega) g0
    have lt : a < Pn.v p * b := by
      rcases Int.lt_or_le a (Pn.v p * b) with h | h
      · exact h
      · have h1 : g * (Pn.v p * b) ≤ g * a := Int.mul_le_mul_of_nonneg_left h (by omega)
        have h2 : g * (Pn.v p * b) = Pn.v p * (g * b) := Int.mul_left_comm ..
        rw [h2, ← ea, ← eb] at h1
        omega
    simp [belowB, a0, b0, cp, lt]
  · have b0 : 0 < b := Int.pos_of_mul_pos_right (a := g) (by omega) g0
    have h1 : 1 * b ≤ g * b := Int.mul_le_mul_of_nonneg_right (by omega) (by omega)
    rw [← eb] at h1
    have : b.natAbs ≤ 10000001 := by omega
    exact Nat.lt_of_le_of_lt this (by decide)
  · have hm : (if p.b.v < p.a.v then p.b.v else p.a.v) = Pn.v p := rfl
    simp [F_law_mixed, Pn.d, Bt.d, pow7, hm, k1, k2, k3, m, lw]
end K02
set_option maxHeartbeats 1000000
set_option maxRecDepth 10000
namespace K02
open PySem PySem.Spec PyProof.Rows L2 DV DV.Pl
/-! the program's arithmetic -/
theorem r_plus {k : Nat} {n d m e : Int} (hd : 0 < d) (he : 0 < e) (sn : Sm k n) (sd : Sm k d) (sm : Sm k m) (se : Sm k e) (hk : k ≤ 2000) : F_plus.run [fr n d, fr m e] = .ok (fr (n * e + m * d) (d * e)) := by
  obtain ⟨g, a, b, g0, b0, rfl, rfl, c1, f1, l1, l2⟩ := fr_parts n hd
  obtain ⟨h, x, y, h0, y0, rfl, rfl, c2, f2, l3, l4⟩ := fr_parts m he
  have sa := sn.le l1
  have sb := sd.le l2
  have sx := sm.le l3
  have sy := se.le l4
  have m1 := mulD_sm sa sy (by omega)
  have m2 := mulD_sm sx sb (by omega)
  have m3 := mulD_sm sb sy (by omega)
  have lw := r_lowest (k := k + k) (a := a * y + x * b) (b := b * y) (Int.ne_of_gt (Int.mul_pos b0 y0)) (sb.mul sy) (by omega)
  rw [f1, f2]
  simp [F_plus, m1, m2, m3, lw]
  exact fr_eq (Int.mul_pos b0 y0) (Int.mul_pos hd he) (by grind)
theorem r_minus {k : Nat} {n d m e : Int} (hd : 0 < d) (he : 0 < e) (sn : Sm k n) (sd : Sm k d) (sm : Sm k m) (se : Sm k e) (hk : k ≤ 2000) : F_minus.run [fr n d, fr m e] = .ok (fr (n * e - m * d) (d * e)) := by
  obtain ⟨g, a, b, g0, b0, rfl, rfl, c1, f1, l1, l2⟩ := fr_parts n hd
  obtain ⟨h, x, y, h0, y0, rfl, rfl, c2, f2, l3, l4⟩ := fr_parts m he
  have sa := sn.le l1
  have sb := sd.le l2
  have sx := sm.le l3
  have sy := se.le l4
  have m1 := mulD_sm sa sy (by omega)
  have m2 := mulD_sm sx sb (by omega)
  have m3 := mulD_sm sb sy (by omega)
  have lw := r_lowest (k := k + k) (a := a * y - x * b) (b := b * y) (Int.ne_of_gt (Int.mul_pos b0 y0)) (sb.mul sy) (by omega)
  rw [f1, f2]
  simp [F_minus, m1, m2, m3, lw]
  exact fr_eq (Int.mul_pos b0 y0) (Int.mul_pos hd he) (by grind)
theorem r_times {k : Nat} {n d m e : Int} (hd : 0 < d) (he : 0 < e) (sn : Sm k n) (sd : Sm k d) (sm : Sm k m) (se : Sm k e) (hk : k ≤ 2000) : F_times.run [fr n d, fr m e] = .ok (fr (n * m) (d * e)) := by
  obtain ⟨g, a, b, g0, b0, rfl, rfl, c1, f1, l1, l2⟩ := fr_parts n hd
  obtain ⟨h, x, y, h0, y0, rfl, rfl, c2, f2, l3, l4⟩ := fr_parts m he
  have sa := sn.le l1
  have sb := sd.le l2
  have sx := sm.le l3
  have sy := se.le l4
  have m1 := mulD_sm sa sx (by omega)
  have m3 := mulD_sm sb sy (by omega)
  have lw := r_lowest (k := k + k) (a := a * x) (b := b * y) (Int.ne_of_gt (Int.mul_pos b0 y0)) (sb.mul sy) (by omega)
  rw [f1, f2]
  simp [F_times, m1, m3, lw]
  exact fr_eq (Int.mul_pos b0 y0) (Int.mul_pos hd he) (by grind)
theorem sg_bool (i : Int) : subD (.bool (decide (0 < i))) (.bool (decide (i < 0))) = .ok (.int (sg i)) := by
  unfold sg
  by_cases h : 0 < i
  · have : ¬ i < 0 := by omega
    simp [h, this, subD]
  · by_cases g : i < 0 <;> simp [h, g, subD]
theorem sg_bool2 (i j : Int) : subD (.bool (decide (j < i))) (.bool (decide (i - j < 0))) = .ok (.int (sg (i - j))) := by
  rw [← sg_bool, show decide (j < i) = decide (0 < i - j) from decide_eq_decide.mpr (by omega)]
theorem r_order {k : Nat} {n d m e : Int} (hd : 0 < d) (he : 0 < e) (sn : Sm k n) (sd : Sm k d) (sm : Sm k m) (se : Sm k e) (hk : k ≤ 2000) : F_order.run [fr n d, fr m e] = .ok (.int (sg (n * e - m * d))) := by
  obtain ⟨g, a, b, g0, b0, rfl, rfl, c1, f1, l1, l2⟩ := fr_parts n hd
  obtain ⟨h, x, y, h0, y0, rfl, rfl, c2, f2, l3, l4⟩ := fr_parts m he
  have sa := sn.le l1
  have sb := sd.le l2
  have sx := sm.le l3
  have sy := se.le l4
  have m1 := mulD_sm sa sy (by omega)
  have m2 := mulD_sm sx sb (by omega)
  have e1 : g * a * (h * y) - h * x * (g * b) = (g * h) * (a * y - x * b) := by grind
  rw [f1, f2, e1, sg_mul (Int.mul_pos g0 h0)]
  simp [F_order, m1, m2, sg_bool2]
theorem r_sign_of {n d : Int} (hd : 0 < d) : F_sign_of.run [fr n d] = .ok (.int (sg n)) := by
  obtain ⟨g, a, b, g0, b0, rfl, rfl, c1, f1, l1, l2⟩ := fr_parts n hd
  rw [f1, sg_mul g0]
  simp [F_sign_of, sg_bool]
end K02
set_option maxHeartbeats 1000000
set_option maxRecDepth 10000
namespace K02
open PySem PySem.Spec PyProof.Rows L2 DV DV.Pl
/-! places and paces -/
/-- the place ahead of leg i -/
def spot (b : Bt) (i : Nat) : Int := goes b.s (b.l.take i)
def Lg.nw : Lg → Bool
  | .wa _ => false
  | _ => true
theorem goes_last : ∀ (gs : List Lg) (s : Int), goes s gs = (s :: (gs.filter Lg.nw).map Lg.n).getLast (by simp)
  | [], s => rfl
  | g :: gs, s => by
    rw [goes, goes_last gs]
    cases g <;> simp [Lg.go, Lg.nw, Lg.n, List.filter_cons, List.getLast_cons]
theorem r_place_ahead (b : Bt) (i : Nat) (hl : b.l.length ≤ 1000) : F_place_ahead.run [b.d, .int i] = .ok (.int (spot b i)) := by
  have hc := comp_2c (i := 3) (j := 4) (f := .var 4) (c := .cmp .ne (.var 3) (.cst (.str "wait"))) (e := ⟨[.val b.d, .val (.int i), .no, .no, .no], []⟩) (fun g => .str (Lg.w g)) (fun g => .int (Lg.n g)) Lg.nw (fun g => .int (Lg.n g)) (b.l.take i) (by decide) rfl rfl (by rw [List.length_take]; omega)
    (fun g _ => by cases g <;> simp [Lg.w, Lg.nw, neD_str (sh_str so_to) so_wait, neD_str (sh_str so_drift) so_wait, neD_str (sh_str so_wait) so_wait]) (fun g _ _ => by simp)
  have e1 : (b.l.map Lg.d).take i = (b.l.take i).map fun g => PyData.tuple [.str (Lg.w g), .int (Lg.n g)] := by
    rw [← List.map_take]; exact List.map_congr_left fun g _ => Lg.d_eq g
  have hx : ixD (.list (.int b.s :: ((b.l.take i).filter Lg.nw).map fun g => PyData.int (Lg.n g))) (.int (-1)) = .ok (.int (spot b i)) := by
    refine ix_last ?_
    have := goes_last (b.l.take i) b.s
    unfold spot
    rw [this, List.getLast?_eq_some_getLast (by simp)]
    congr 1
    have e2 : (PyData.int b.s :: ((b.l.take i).filter Lg.nw).map fun g => PyData.int (Lg.n g)) = (b.s :: ((b.l.take i).filter Lg.nw).map Lg.n).map PyData.int := by simp
    simp only [e2, List.getLast_map]
  have cu := cut_to (b.l.map Lg.d) i
  rw [e1] at cu
  have hl2 : ((b.l.take i).filter Lg.nw).length ≤ 1000 := Nat.le_trans (List.length_filter_le _ _) (by rw [List.length_take]; omega)
  simp [Bt.d] at hc
  have ad := addL [PyData.int b.s] (((b.l.take i).filter Lg.nw).map fun g => PyData.int (Lg.n g)) (by simp only [List.length_map, List.length_singleton]; omega)
  simp [F_place_ahead, Bt.d, sliceD, cu, hc, ad, hx]
/-- the pace over b of a leg, where a / b is the flow -/
def pace (v a b s : Int) : Lg → Int
  | .to n => if s < n then v * b - a else -(v * b + a)
  | .dr _ => -a
  | .wa _ => 0
/-- a flow and its plan -/
structure Fl (p : Pn) (a b : Int) : Prop where
  ok : p.ok = true
  a0 : 0 < a
  b0 : 0 < b
  cp : Int.gcd a b = 1
  lt : a < Pn.v p * b
  sb : Sm 24 b
theorem Fl.of {p : Pn} {a b : Int} (hp : p.ok = true) (h : belowB (Pn.v p) a b = true) (hb : b.natAbs < 2 ^ 24) : Fl p a b := by
  unfold belowB at h
  simp only [Bool.and_eq_true, decide_eq_true_eq] at h
  exact ⟨hp, h.2.1, h.1.1, h.1.2, h.2.2, hb⟩
def rowD (v a b : Int) : DV.D := .tuple [.int (v * b - a), .int (v * b + a), .int a]
def Wh (p : Pn) (a b : Int) : Int := ((((p.a.v * b - a) * (p.a.v * b + a)) * (p.b.v * b - a)) * (p.b.v * b + a)) * a
section
variable {p : Pn} {a b : Int}
theorem Fl.vs (h : Fl p a b) : 1 ≤ p.a.v ∧ p.a.v ≤ 6 ∧ 1 ≤ p.b.v ∧ p.b.v ≤ 6 ∧ Pn.v p ≤ p.a.v ∧ Pn.v p ≤ p.b.v := by
  have k := (Pn.ok_iff' p).mp h.ok
  have k1 := ((Bt.ok_iff _).mp k.1).1
  have k2 := ((Bt.ok_iff _).mp k.2.1).1
  refine ⟨by omega, by omega, by omega, by omega, ?_, ?_⟩ <;> (unfold Pn.v; split <;> omega)
theorem Fl.bb (h : Fl p a b) : b < 16777216 ∧ a < 6 * b := by
  have h1 := h.vs
  have h2 := h.sb
  have h3 := h.b0
  unfold Sm at h2
  refine ⟨by omega, ?_⟩
  have : Pn.v p * b ≤ 6 * b := Int.mul_le_mul_of_nonneg_right (by omega) (by omega)
  have := h.lt
  omega
/-- the paces of a boat -/
theorem Fl.pc (h : Fl p a b) {v : Int} (h1 : Pn.v p ≤ v) (h2 : v ≤ 6) : 0 < v * b - a ∧ v * b + a < 268435456 ∧ v * b - a < 268435456 ∧ 0 < v * b + a := by
  have k1 := h.bb
  have k2 := h.lt
  have k3 := h.b0
  have k4 := h.a0
  have : Pn.v p * b ≤ v * b := Int.mul_le_mul_of_nonneg_right h1 (by omega)
  have : v * b ≤ 6 * b := Int.mul_le_mul_of_nonneg_right h2 (by omega)
  omega
end
theorem r_law_paces {p : Pn} {a b : Int} (h : Fl p a b) : F_law_paces.run [p.d, .tuple [.int a, .int b]] = .ok (.tuple [.list [rowD p.a.v a b, rowD p.b.v a b], .int (Wh p a b)]) := by
  have vs := h.vs
  have bb := h.bb
  have b0 := h.b0
  have a0 := h.a0
  have p1 := h.pc vs.2.2.2.2.1 (by omega)
  have p2 := h.pc vs.2.2.2.2.2 (by omega)
  have m1 := mulD_sm (k := 3) (l := 24) (i := p.a.v) (j := b) (by unfold Sm; omega) h.sb (by decide)
  have m2 := mulD_sm (k := 3) (l := 24) (i := p.b.v) (j := b) (by unfold Sm; omega) h.sb (by decide)
  have s1 : Sm 28 (p.a.v * b - a) := by unfold Sm; omega
  have s2 : Sm 28 (p.a.v * b + a) := by unfold Sm; omega
  have s3 : Sm 28 (p.b.v * b - a) := by unfold Sm; omega
  have s4 : Sm 28 (p.b.v * b + a) := by unfold Sm; omega
  have s5 : Sm 28 a := by unfold Sm; omega
  have n1 := mulD_sm (k := 1) (i := 1) (by unfold Sm; decide) s1 (by decide)
  rw [Int.one_mul] at n1
  have n2 := mulD_sm s1 s2 (by decide)
  have n3 := mulD_sm (s1.mul s2) s3 (by decide)
  have n4 := mulD_sm ((s1.mul s2).mul s3) s4 (by decide)
  have n5 := mulD_sm (((s1.mul s2).mul s3).mul s4) s5 (by decide)
  simp [F_law_paces, B_law_paces_1, each_cons, Pn.d, Bt.d, m1, m2, n1, n2, n3, n4, n5, rowD, Wh]
theorem r_law_pace (g : Lg) (s v a b : Int) : F_law_pace.run [g.d, .int s, rowD v a b] = .ok (.int (pace v a b s g)) := by
  cases g with
  | to n =>
    by_cases h : s < n <;> simp [F_law_pace, Lg.d, rowD, pace, h, eqD_str (sh_str so_to) so_wait, eqD_str (sh_str so_to) so_drift]
  | dr n => simp [F_law_pace, Lg.d, rowD, pace, eqD_str (sh_str so_drift) so_wait, eqD_str (sh_str so_drift) so_drift]
  | wa n => simp [F_law_pace, Lg.d, rowD, pace, eqD_str (sh_str so_wait) so_wait]
end K02
set_option maxHeartbeats 1000000
set_option maxRecDepth 10000
namespace K02
open PySem PySem.Spec PyProof.Rows L2 DV DV.Pl
/-! one boat at a flow -/
def spotsL (s : Int) : List Lg → List Int
  | [] => [s]
  | g :: gs => s :: spotsL (g.go s) gs
theorem spotsL_get : ∀ (gs : List Lg) (s : Int) (i : Nat), i ≤ gs.length → (spotsL s gs)[i]? = some (goes s (gs.take i))
  | [], s, i, h => by
    have : i = 0 := by simpa using h
    subst this; rfl
  | g :: gs, s, 0, h => rfl
  | g :: gs, s, i + 1, h => by
    have := spotsL_get gs (g.go s) i (by simpa using h)
    simpa [spotsL, goes] using this
theorem spots_loop (B : DV.D) : ∀ (gs : List Lg) (s : Int) (ds : List DV.D) (x2 x3 : Slot), nb x2 = true → nb x3 = true → ds.length + gs.length < 1000 →
    ∃ y2 y3, eachS (asg (.cons (.name 2) (.cons (.name 3) .nil))) (evS B_law_spots_1) (gs.map Lg.d) ⟨[.val B, .own (ds ++ [.int s]), x2, x3], []⟩ = .next ⟨[.val B, .own (ds ++ (spotsL s gs).map PyData.int), y2, y3], []⟩
  | [], s, ds, x2, x3, h2, h3, hl => ⟨x2, x3, rfl⟩
  | g :: gs, s, ds, x2, x3, h2, h3, hl => by
    simp only [List.length_cons] at hl
    obtain ⟨y2, y3, ih⟩ := spots_loop B gs (g.go s) (ds ++ [.int s]) (.val (.str g.w)) (.val (.int g.n)) rfl rfl (by simp; omega)
    refine ⟨y2, y3, ?_⟩
    have ix : ixD (.list (ds ++ [.int s])) (.int (-1)) = .ok (.int s) := ix_last (by simp)
    have hl2 : ds.length + 1 < 16777216 := by omega
    rw [List.map_cons, each_cons, Lg.d_eq]
    have step : evS B_law_spots_1 ⟨[.val B, .own (ds ++ [.int s]), .val (.str g.w), .val (.int g.n)], []⟩ = .next ⟨[.val B, .own ((ds ++ [.int s]) ++ [.int (g.go s)]), .val (.str g.w), .val (.int g.n)], []⟩ := by
      cases g with
      | to n => simp [B_law_spots_1, Lg.w, Lg.n, Lg.go, eqD_str (sh_str so_to) so_wait, hl2]
      | dr n => simp [B_law_spots_1, Lg.w, Lg.n, Lg.go, eqD_str (sh_str so_drift) so_wait, hl2]
      | wa n => simp [B_law_spots_1, Lg.w, Lg.n, Lg.go, eqD_str (sh_str so_wait) so_wait, hl2, ix]
    simp [free_nb h2, free_nb h3, step]
    simp only [List.append_assoc, List.singleton_append] at ih
    simp [spotsL]
    simpa using ih
theorem r_law_spots (b : Bt) (hl : b.l.length ≤ 4) : F_law_spots.run [b.d] = .ok (.list ((spotsL b.s b.l).map PyData.int)) := by
  obtain ⟨y2, y3, h⟩ := spots_loop b.d b.l b.s [] .no .no rfl rfl (by simp; omega)
  simp [Bt.d] at h
  simp [F_law_spots, Bt.d, h]
/-- a boat whose paces go into W -/
structure Bo (t : Bt) (W a b : Int) : Prop where
  a0 : 0 < a
  b0 : 0 < b
  cp : Int.gcd a b = 1
  sb : Sm 24 b
  v1 : 0 < t.v * b - a
  v2 : t.v * b + a < 268435456
  v6 : t.v ≤ 6
  v0 : 1 ≤ t.v
  W0 : 0 < W
  sW : Sm 140 W
  d1 : (t.v * b - a) ∣ W
  d2 : (t.v * b + a) ∣ W
  d3 : a ∣ W
  l4 : t.l.length ≤ 4
  mv : movs t.s t.l = true
  rg : t.l.all Lg.rng = true
  s0 : 0 ≤ t.s
  s9 : t.s ≤ 9
theorem r_pace_of {t : Bt} {W a b : Int} (h : Bo t W a b) (g : Lg) (s : Int) : F_pace_of.run [t.d, g.d, .int s, .tuple [.int a, .int b]] = .ok (fr (pace t.v a b s g) b) := by
  have fa : fr a b = .tuple [.int a, .int b] := fr_low h.b0 h.cp
  have fv : fr t.v 1 = .tuple [.int t.v, .int 1] := fr_low (by decide) (by simp)
  have f1 : fr (-1) 1 = .tuple [.int (-1), .int 1] := fr_low (by decide) (by simp)
  have bb := h.b0
  have a0 := h.a0
  have v1 := h.v1
  have v2 := h.v2
  have sv : Sm 40 t.v := by have := h.v6; have := h.v0; unfold Sm; omega
  have sb : Sm 40 b := h.sb.mono (by decide)
  have sa : Sm 40 a := by unfold Sm; omega
  have s1 : Sm 40 1 := by unfold Sm; decide
  have sm1 : Sm 40 (-1) := by unfold Sm; decide
  cases g with
  | to n =>
    have mi := r_minus (k := 40) (n := t.v) (d := 1) (m := a) (e := b) (by decide) bb sv s1 sa sb (by decide)
    have pl := r_plus (k := 40) (n := t.v) (d := 1) (m := a) (e := b) (by decide) bb sv s1 sa sb (by decide)
    rw [fv, fa] at mi pl
    rw [Int.mul_one, Int.one_mul] at mi pl
    have ti := r_times (k := 40) (n := t.v * b + a) (d := b) (m := -1) (e := 1) bb (by decide) (by unfold Sm; omega) sb sm1 s1 (by decide)
    rw [f1, Int.mul_one] at ti
    by_cases hs : s < n
    · simp [F_pace_of, Lg.d, Bt.d, pace, hs, eqD_str (sh_str so_to) so_wait, eqD_str (sh_str so_to) so_drift, mi]
    · have e1 : (t.v * b + a) * -1 = -(t.v * b + a) := by omega
      rw [e1] at ti
      simp [F_pace_of, Lg.d, Bt.d, pace, hs, eqD_str (sh_str so_to) so_wait, eqD_str (sh_str so_to) so_drift, pl, ti]
  | dr n =>
    have e1 : fr (-a) b = .tuple [.int (-a), .int b] := fr_low bb (by rw [Int.neg_gcd]; exact h.cp)
    simp [F_pace_of, Lg.d, Bt.d, pace, eqD_str (sh_str so_drift) so_wait, eqD_str (sh_str so_drift) so_drift, e1]
  | wa n =>
    have e1 : fr 0 b = .tuple [.int 0, .int 1] := by
      rw [fr_eq (m := 0) (e := 1) bb (by decide) (by simp)]; exact fr_low (by decide) (by decide)
    simp [F_pace_of, Lg.d, Bt.d, pace, eqD_str (sh_str so_wait) so_wait, e1]
end K02
set_option maxHeartbeats 1000000
set_option maxRecDepth 10000
namespace K02
open PySem PySem.Spec PyProof.Rows L2 DV DV.Pl
/-! one leg more -/
theorem mov_at : ∀ {gs : List Lg} {s : Int} {i : Nat} {g : Lg}, movs s gs = true → gs[i]? = some g → g.mov (goes s (gs.take i)) = true
  | [], s, i, g, h, e => by simp at e
  | x :: gs, s, 0, g, h, e => by
    simp only [movs, Bool.and_eq_true] at h
    simp at e; subst e; exact h.1
  | x :: gs, s, i + 1, g, h, e => by
    simp only [movs, Bool.and_eq_true] at h
    have := mov_at h.2 (i := i) (by simpa using e)
    simpa [goes] using this
theorem goes_rng : ∀ {gs : List Lg} {s : Int}, gs.all Lg.rng = true → 0 ≤ s ∧ s ≤ 9 → 0 ≤ goes s gs ∧ goes s gs ≤ 9
  | [], s, _, h => h
  | g :: gs, s, k, h => by
    simp only [List.all_cons, Bool.and_eq_true] at k
    refine goes_rng (gs := gs) (s := g.go s) k.2 ?_
    cases g <;> simp [Lg.go, Lg.rng] at k ⊢ <;> omega
theorem rng_at {gs : List Lg} {i : Nat} {g : Lg} (h : gs.all Lg.rng = true) (e : gs[i]? = some g) : g.rng = true := by
  rw [List.all_eq_true] at h
  exact h g (List.mem_of_getElem? e)
section
variable {t : Bt} {W a b : Int}
theorem Bo.spot (h : Bo t W a b) (i : Nat) : 0 ≤ spot t i ∧ spot t i ≤ 9 := by
  refine goes_rng ?_ ⟨h.s0, h.s9⟩
  rw [List.all_eq_true]
  intro g hg
  exact List.all_eq_true.mp h.rg g (List.mem_of_mem_take hg)
def legT (W v a b s : Int) (g : Lg) : Int := ((g.n - s).natAbs : Int) * W / ((pace v a b s g).natAbs : Int)
structure Leg (W P N D L : Int) : Prop where
  sgn : (0 < P ∧ D = N) ∨ (P < 0 ∧ D = -N)
  N0 : 0 < N
  N9 : N ≤ 9
  P28 : P.natAbs < 268435456
  eq : L * (P.natAbs : Int) = N * W
  L0 : 0 ≤ L
  L9 : L ≤ 9 * W
theorem Bo.leg (h : Bo t W a b) {g : Lg} {s : Int} (hs : 0 ≤ s ∧ s ≤ 9) (hm : g.mov s = true) (hr : g.rng = true) (hw : Lg.nw g = true) : Leg W (pace t.v a b s g) ((g.n - s).natAbs : Int) (g.n - s) (legT W t.v a b s g) := by
  have a0 := h.a0; have b0 := h.b0; have v1 := h.v1; have v2 := h.v2; have W0 := h.W0
  have key : ((0 < pace t.v a b s g ∧ s < g.n) ∨ (pace t.v a b s g < 0 ∧ g.n < s)) ∧ pace t.v a b s g ∣ W ∧ (pace t.v a b s g).natAbs < 268435456 ∧ 0 ≤ g.n ∧ g.n ≤ 9 := by
    cases g with
    | to n =>
      simp [Lg.mov] at hm
      simp [Lg.rng] at hr
      by_cases q : s < n
      · simp only [pace, if_pos q, Lg.n]
        exact ⟨.inl ⟨v1, q⟩, h.d1, by omega, hr⟩
      · simp only [pace, if_neg q, Lg.n]
        exact ⟨.inr ⟨by omega, by omega⟩, Int.neg_dvd.mpr h.d2, by omega, hr⟩
    | dr n =>
      simp [Lg.mov] at hm
      simp [Lg.rng] at hr
      simp only [pace, Lg.n]
      exact ⟨.inr ⟨by omega, hm⟩, Int.neg_dvd.mpr h.d3, by omega, hr⟩
    | wa n => cases hw
  obtain ⟨k1, k2, k3, k4⟩ := key
  unfold legT
  generalize pace t.v a b s g = P at k1 k2 k3 ⊢
  have hP : 0 < (P.natAbs : Int) := by omega
  have hd : (P.natAbs : Int) ∣ ((g.n - s).natAbs : Int) * W := Int.dvd_mul_of_dvd_right (Int.natAbs_dvd.mpr k2)
  have e := Int.ediv_mul_cancel hd
  have N0 : (0 : Int) < ((g.n - s).natAbs : Int) := by omega
  have N9 : ((g.n - s).natAbs : Int) ≤ 9 := by omega
  have Q0 : 0 ≤ ((g.n - s).natAbs : Int) * W / (P.natAbs : Int) := Int.ediv_nonneg (Int.mul_nonneg (by omega) (by omega)) (by omega)
  refine ⟨by omega, N0, N9, k3, e, Q0, ?_⟩
  have h1 : ((g.n - s).natAbs : Int) * W / (P.natAbs : Int) ≤ ((g.n - s).natAbs : Int) * W := Int.ediv_le_self _ (Int.mul_nonneg (by omega) (by omega))
  have h2 : ((g.n - s).natAbs : Int) * W ≤ 9 * W := Int.mul_le_mul_of_nonneg_right N9 (by omega)
  omega
def stepRow (W a b : Int) (t : Bt) (xs ys : List Int) : List Int := match t.l[xs.length - 1]? with
  | none => xs
  | some (.wa m) => (match ys[m.toNat]? with
    | some y => xs ++ [if xs.getLastD 0 < y then y else xs.getLastD 0]
    | none => xs)
  | some g => xs ++ [xs.getLastD 0 + legT W t.v a b (spot t (xs.length - 1)) g]
/-- the program's time of T -/
def tm (W b T : Int) : DV.D := fr (T * b) W
theorem tm_add {T L N y X g P : Int} (W0 : 0 < W) (X0 : 0 < X) (g0 : 0 < g) (hy : b = g * y) (hX : P = g * X) (hL : L * P = N * W) : fr (T * b * X + N * y * W) (W * X) = tm W b (T + L) := by
  unfold tm
  refine fr_eq (Int.mul_pos W0 X0) W0 ?_
  refine Int.eq_of_mul_eq_mul_left (Int.ne_of_gt g0) ?_
  subst hX hy
  grind
theorem r_one_more (h : Bo t W a b) (xs ys : List Int) (hx : xs ≠ []) (hl : xs.length ≤ t.l.length + 1) (hy : ys.length < 1000) (sx : ∀ x ∈ xs, Sm 150 x) (sy : ∀ y ∈ ys, Sm 150 y) :
    F_one_more.run [t.d, .list (xs.map (tm W b)), .list (ys.map (tm W b)), .tuple [.int a, .int b]] = .ok (.list ((stepRow W a b t xs ys).map (tm W b))) := by
  obtain ⟨n, hn⟩ : ∃ n, xs.length = n + 1 := ⟨xs.length - 1, by
    have := List.length_pos_iff.mpr hx; omega⟩
  have l4 := h.l4
  have W0 := h.W0
  have sW : Sm 200 W := h.sW.mono (by decide)
  have lst : xs.getLast? = some (xs.getLastD 0) := by
    rw [List.getLastD_eq_getLast?]
    cases e : xs.getLast? with
    | none => exact absurd (List.getLast?_eq_none_iff.mp e) hx
    | some z => rfl
  have ixl : ixD (.list (xs.map (tm W b))) (.int (-1)) = .ok (tm W b (xs.getLastD 0)) := ix_last (by rw [List.getLast?_map, lst]; rfl)
  have sT : Sm 150 (xs.getLastD 0) := sx _ (List.mem_of_getLast? lst)
  generalize hT : xs.getLastD 0 = T at *
  have sTb : Sm 200 (T * b) := (sT.mul h.sb).mono (by decide)
  have pl := r_place_ahead t n (by omega)
  unfold stepRow
  rw [show xs.length - 1 = n by omega, hT]
  rcases Nat.lt_or_ge n t.l.length with q | q
  · have eg : t.l[n]? = some t.l[n] := List.getElem?_eq_getElem q
    have ne : ¬ ((n : Int) = (t.l.length : Int)) := by omega
    have ixg : ixD (.tuple (t.l.map Lg.d)) (.int n) = .ok (t.l[n]).d := ix_tup (by omega) (by simp [eg])
    have hm := mov_at h.mv eg
    have hr := rng_at h.rg eg
    generalize t.l[n] = g at eg ixg hm hr
    rw [eg]
    have ad := fun z => addL (xs.map (tm W b)) [tm W b z] (by simp; omega)
    by_cases hw : Lg.nw g = true
    · have lg := h.leg (h.spot n) hm hr hw
      have e1 : (match some g with
          | none => xs
          | some (.wa m) => (match ys[m.toNat]? with
            | some y => xs ++ [if T < y then y else T]
            | none => xs)
          | some g => xs ++ [T + legT W t.v a b (spot t n) g]) = xs ++ [T + legT W t.v a b (spot t n) g] := by
        cases g <;> first | rfl | cases hw
      rw [e1]
      have pc := r_pace_of h g (spot t n)
      obtain ⟨k, x, y, k0, y0, f1, f2, f3, f4, f5, f6⟩ := fr_parts (pace t.v a b (spot t n) g) h.b0
      rw [f4] at pc
      have hsp := h.spot n
      have ly := lg.N9
      have sy2 : Sm 24 y := h.sb.le f6
      have sx2 : Sm 28 x := Nat.lt_of_le_of_lt f5 lg.P28
      have hw2 : neD (.str g.w) (.str "wait") = .ok (.bool true) := by
        cases g with
        | to p => exact neD_str (sh_str so_to) so_wait
        | dr p => exact neD_str (sh_str so_drift) so_wait
        | wa p => cases hw
      rw [Lg.d_eq] at ixg pc
      have hL := lg.eq
      have sg := lg.sgn
      have L9 := lg.L9
      have N0 := lg.N0
      generalize legT W t.v a b (spot t n) g = L at hL L9 ⊢
      generalize ((g.n - spot t n).natAbs : Int) = N at hL sg ly N0
      generalize pace t.v a b (spot t n) g = P at f1 hL sg pc
      generalize spot t n = s at pl pc sg hsp ⊢
      have td : ixD t.d (.int 2) = .ok (.tuple (t.l.map Lg.d)) := by simp [Bt.d]
      have sN : Sm 4 N := by unfold Sm; omega
      have sNy : Sm 200 (N * y) := (sN.mul sy2).mono (by decide)
      have sx3 : Sm 200 x := sx2.mono (by decide)
      rcases sg with ⟨p0, sg⟩ | ⟨p0, sg⟩
      · have x0 : 0 < x := Int.pos_of_mul_pos_right (a := k) (by rw [← f1]; exact p0) k0
        have md : mulD (.int (g.n - s)) (.int y) = .ok (.int (N * y)) := by rw [sg]; exact mulD_sm sN sy2 (by decide)
        have lw := r_lowest (a := N * y) (Int.ne_of_gt x0) sx3 (by decide)
        have ps := r_plus (k := 200) W0 x0 sTb sW sNy sx3 (by decide)
        rw [tm_add (P := P) (N := N) W0 x0 k0 f2 f1 (by rw [← hL]; congr 1; omega)] at ps
        have ad := ad (T + L)
        change F_plus.run [tm W b T, fr (N * y) x] = _ at ps
        simp [F_one_more, hn, td, ne, ixg, hw2, pl, pc, md, x0, lw, ixl, ps, ad]
      · have x0 : 0 < -x := Int.pos_of_mul_pos_right (a := k) (by rw [Int.mul_neg, ← f1]; omega) k0
        have x1 : ¬ 0 < x := by omega
        have md : mulD (.int (g.n - s)) (.int y) = .ok (.int (-(N * y))) := by
          rw [sg, mulD_sm sN.neg sy2 (by decide), Int.neg_mul]
        have lw := r_lowest (a := N * y) (Int.ne_of_gt x0) sx3.neg (by decide)
        have ps := r_plus (k := 200) W0 x0 sTb sW sNy sx3.neg (by decide)
        rw [tm_add (P := -P) (N := N) W0 x0 k0 f2 (by rw [f1, Int.mul_neg]) (by rw [← hL]; congr 1; omega)] at ps
        have ad := ad (T + L)
        change F_plus.run [tm W b T, fr (N * y) (-x)] = _ at ps
        simp [F_one_more, hn, td, ne, ixg, hw2, pl, pc, md, x1, lw, ixl, ps, ad]
    · obtain ⟨m, rfl⟩ : ∃ m, g = .wa m := by
        cases g with
        | wa m => exact ⟨m, rfl⟩
        | _ => exact absurd rfl hw
      have td : ixD t.d (.int 2) = .ok (.tuple (t.l.map Lg.d)) := by simp [Bt.d]
      have hw2 : neD (.str "wait") (.str "wait") = .ok (.bool false) := by rw [neD_str (sh_str so_wait) so_wait]; rfl
      have m1 : 1 ≤ m ∧ m ≤ 4 := by simpa [Lg.rng] using hr
      simp only [Lg.d] at ixg
      rcases Nat.lt_or_ge m.toNat ys.length with qy | qy
      · have ey : ys[m.toNat]? = some ys[m.toNat] := List.getElem?_eq_getElem qy
        have lt : m < (ys.length : Int) := by omega
        have sy2 := sy _ (List.getElem_mem qy)
        generalize ys[m.toNat] = y at ey sy2
        have ixy : ixD (.list (ys.map (tm W b))) (.int m) = .ok (tm W b y) := ix_lst (by omega) (by rw [List.getElem?_map, ey]; rfl)
        have od := r_order (k := 200) W0 W0 ((sy2.mul h.sb).mono (by decide)) sW sTb sW (by decide)
        have e2 : y * b * W - T * b * W = (b * W) * (y - T) := by grind
        rw [e2, sg_mul (Int.mul_pos h.b0 W0)] at od
        change F_order.run [tm W b y, tm W b T] = _ at od
        by_cases c : T < y
        · have c2 : 0 < y - T := by omega
          have ad := ad y
          dsimp only
          rw [ey]
          simp [F_one_more, hn, td, ne, ixg, hw2, pl, lt, ixy, ixl, od, sg, c2, ad, c]
        · have c2 : ¬ 0 < y - T := by omega
          have ad := ad T
          have c3 : ¬ (0 < (if y - T < 0 then (-1 : Int) else 0)) := by split <;> decide
          dsimp only
          rw [ey]
          simp [F_one_more, hn, td, ne, ixg, hw2, pl, lt, ixy, ixl, od, sg, c2, c3, ad, c]
      · have ey : ys[m.toNat]? = none := List.getElem?_eq_none qy
        have lt : ¬ m < (ys.length : Int) := by omega
        dsimp only
        rw [ey]
        simp [F_one_more, hn, td, ne, ixg, hw2, pl, lt]
  · have eg : t.l[n]? = none := List.getElem?_eq_none q
    have e : (n : Int) = (t.l.length : Int) := by omega
    rw [eg]
    simp [F_one_more, hn, Bt.d, e]
end
end K02
set_option maxHeartbeats 1000000
set_option maxRecDepth 10000
namespace K02
open PySem PySem.Spec PyProof.Rows L2 DV DV.Pl
/-! the law's turn -/
section
variable {t : Bt} {W a b : Int}
theorem step_none {xs ys : List Int} {n : Nat} (hn : xs.length = n + 1) (e : t.l[n]? = none) : stepRow W a b t xs ys = xs := by
  unfold stepRow; rw [show xs.length - 1 = n by omega, e]
theorem step_go {xs ys : List Int} {n : Nat} {g : Lg} (hn : xs.length = n + 1) (e : t.l[n]? = some g) (hw : Lg.nw g = true) : stepRow W a b t xs ys = xs ++ [xs.getLastD 0 + legT W t.v a b (spot t n) g] := by
  unfold stepRow; rw [show xs.length - 1 = n by omega, e]
  cases g <;> first | rfl | cases hw
theorem step_wait {xs ys : List Int} {n : Nat} {m y : Int} (hn : xs.length = n + 1) (e : t.l[n]? = some (.wa m)) (ey : ys[m.toNat]? = some y) : stepRow W a b t xs ys = xs ++ [if xs.getLastD 0 < y then y else xs.getLastD 0] := by
  unfold stepRow; rw [show xs.length - 1 = n by omega, e]; dsimp only; rw [ey]
theorem step_stay {xs ys : List Int} {n : Nat} {m : Int} (hn : xs.length = n + 1) (e : t.l[n]? = some (.wa m)) (ey : ys[m.toNat]? = none) : stepRow W a b t xs ys = xs := by
  unfold stepRow; rw [show xs.length - 1 = n by omega, e]; dsimp only; rw [ey]
theorem inner_eq (h : Bo t W a b) (P F A : DV.D) (w : Int) (mo : Bool) (hp : ixD P (.int w) = .ok t.d) (ha : ixD A (.int w) = .ok (rowD t.v a b)) (xs ys : List Int) (hx : xs ≠ []) (hl : xs.length ≤ t.l.length + 1) (hy : ys.length < 1000) :
    ∃ s10 s11 s12 s13, nbS s10 = true ∧ nbS s11 = true ∧ nbS s12 = true ∧ nbS s13 = true ∧
    evS I_law_clock ⟨[.val P, .val F, .val A, .val (.int W), .own [obj 0, obj 1], .val (.bool mo), .val (.int w), .bag (isD xs), .bag (isD ys), .val (.int ((xs.length : Int) - 1)), .no, .no, .no, .no], []⟩
      = .next ⟨[.val P, .val F, .val A, .val (.int W), .own [obj 0, obj 1], .val (.bool (if (stepRow W a b t xs ys).length = xs.length then mo else true)), .val (.int w), .bag (isD (stepRow W a b t xs ys)), .bag (isD ys), .val (.int ((xs.length : Int) - 1)), s10, s11, s12, s13], []⟩ := by
  obtain ⟨n, hn⟩ : ∃ n, xs.length = n + 1 := ⟨xs.length - 1, by
    have := List.length_pos_iff.mpr hx; omega⟩
  have l4 := h.l4
  have W0 := h.W0
  have lst : xs.getLast? = some (xs.getLastD 0) := by
    rw [List.getLastD_eq_getLast?]
    cases e : xs.getLast? with
    | none => exact absurd (List.getLast?_eq_none_iff.mp e) hx
    | some z => rfl
  have ixl : ixD (.list (isD xs)) (.int (-1)) = .ok (.int (xs.getLastD 0)) := ix_last (by unfold isD; rw [List.getLast?_map, lst]; rfl)
  have td : ixD t.d (.int 2) = .ok (.tuple (t.l.map Lg.d)) := by simp [Bt.d]
  have en : (xs.length : Int) - 1 = (n : Int) := by omega
  have lx : (isD xs).length < 16777216 := by unfold isD; rw [List.length_map]; omega
  have ly : (isD ys).length = ys.length := by unfold isD; rw [List.length_map]
  have sp := r_law_spots t l4
  rw [en]
  generalize hR : stepRow W a b t xs ys = R
  rcases Nat.lt_or_ge n t.l.length with q | q
  · have eg : t.l[n]? = some t.l[n] := List.getElem?_eq_getElem q
    have lt : (n : Int) < (t.l.length : Int) := by omega
    have ixg : ixD (.tuple (t.l.map Lg.d)) (.int n) = .ok (t.l[n]).d := ix_tup (by omega) (by simp [eg])
    have hm := mov_at h.mv eg
    have hr := rng_at h.rg eg
    have ixs : ixD (.list ((spotsL t.s t.l).map PyData.int)) (.int n) = .ok (.int (spot t n)) := ix_lst (by omega) (by rw [List.getElem?_map, show (n : Int).toNat = n by omega, spotsL_get _ _ _ (by omega)]; rfl)
    generalize t.l[n] = g at eg ixg hm hr
    by_cases hw : Lg.nw g = true
    · have lg := h.leg (h.spot n) hm hr hw
      rw [step_go hn eg hw] at hR
      subst hR
      generalize xs.getLastD 0 = T at *
      have pc := r_law_pace g (spot t n) t.v a b
      have hw2 : neD (.str g.w) (.str "wait") = .ok (.bool true) := by
        cases g with
        | to p => exact neD_str (sh_str so_to) so_wait
        | dr p => exact neD_str (sh_str so_drift) so_wait
        | wa p => cases hw
      rw [Lg.d_eq] at ixg pc
      have hsp := h.spot n
      have sN : Sm 4 (((g.n - spot t n).natAbs : Nat) : Int) := by have := lg.N9; unfold Sm; omega
      have md := mulD_sm sN h.sW (by decide)
      have dv := divD_sm (k := 28) (i := (((g.n - spot t n).natAbs : Nat) : Int) * W) (j := (((pace t.v a b (spot t n) g).natAbs : Nat) : Int)) (by have := lg.sgn; omega) (by have := lg.P28; unfold Sm; omega) (by decide)
      rw [fdiv_pos (by have := lg.sgn; omega)] at dv
      refine ⟨.val (.tuple [.str g.w, .int g.n]), .val (.int (spot t n)), .val (.int (pace t.v a b (spot t n) g)), .val (.int (legT W t.v a b (spot t n) g)), rfl, rfl, rfl, rfl, ?_⟩
      simp [I_law_clock, hp, td, lt, ixg, sp, ixs, hw2, ha, pc, abs_if, md, dv, ixl, lx, legT]
      simp [isD]
    · obtain ⟨m, rfl⟩ : ∃ m, g = .wa m := by
        cases g with
        | wa m => exact ⟨m, rfl⟩
        | _ => exact absurd rfl hw
      have hw2 : neD (.str "wait") (.str "wait") = .ok (.bool false) := by rw [neD_str (sh_str so_wait) so_wait]; rfl
      have m1 : 1 ≤ m ∧ m ≤ 4 := by simpa [Lg.rng] using hr
      simp only [Lg.d] at ixg
      refine ⟨.val (.tuple [.str "wait", .int m]), .val (.int (spot t n)), .no, .no, rfl, rfl, rfl, rfl, ?_⟩
      rcases Nat.lt_or_ge m.toNat ys.length with qy | qy
      · have ey : ys[m.toNat]? = some ys[m.toNat] := List.getElem?_eq_getElem qy
        have lty : m < (ys.length : Int) := by omega
        generalize ys[m.toNat] = y at ey
        have ixy : ixD (.list (isD ys)) (.int m) = .ok (.int y) := ix_lst (by omega) (by unfold isD; rw [List.getElem?_map, ey]; rfl)
        rw [step_wait hn eg ey] at hR
        subst hR
        generalize xs.getLastD 0 = T at *
        by_cases c : T < y <;> simp [I_law_clock, hp, td, lt, ixg, sp, ixs, hw2, ly, lty, ixl, ixy, lx, c] <;> simp [isD]
      · have ey : ys[m.toNat]? = none := List.getElem?_eq_none qy
        have lty : ¬ m < (ys.length : Int) := by omega
        rw [step_stay hn eg ey] at hR
        subst hR
        simp [I_law_clock, hp, td, lt, ixg, sp, ixs, hw2, ly, lty]
  · have eg : t.l[n]? = none := List.getElem?_eq_none q
    have lt : ¬ (n : Int) < (t.l.length : Int) := by omega
    rw [step_none hn eg] at hR
    subst hR
    refine ⟨.no, .no, .no, .no, rfl, rfl, rfl, rfl, ?_⟩
    simp [I_law_clock, hp, td, lt]
end
end K02
set_option maxHeartbeats 1000000
set_option maxRecDepth 10000
namespace K02
open PySem PySem.Spec PyProof.Rows L2 DV DV.Pl
/-! rows of times -/
section
variable {t : Bt} {W a b : Int}
structure Row (t : Bt) (W a b K : Int) (xs : List Int) : Prop where
  hd : xs[0]? = some 0
  len : xs.length ≤ t.l.length + 1
  bd : ∀ x ∈ xs, 0 ≤ x ∧ x ≤ K
  ch : ∀ (i : Nat) x y g, xs[i]? = some x → xs[i + 1]? = some y → t.l[i]? = some g → x ≤ y ∧ spot t (i + 1) * W = spot t i * W + pace t.v a b (spot t i) g * (y - x)
theorem Row.ne {K : Int} {xs : List Int} (h : Row t W a b K xs) : xs ≠ [] := fun z => by
  have := h.hd; rw [z] at this; cases this
theorem Row.mono {K L : Int} {xs : List Int} (h : Row t W a b K xs) (k : K ≤ L) : Row t W a b L xs := ⟨h.hd, h.len, fun x hx => by have := h.bd x hx; omega, h.ch⟩
theorem Row.last {K : Int} {xs : List Int} (h : Row t W a b K xs) {n : Nat} (hn : xs.length = n + 1) : xs[n]? = some (xs.getLastD 0) := by
  rw [List.getLastD_eq_getLast?, List.getLast?_eq_getElem?, show xs.length - 1 = n by omega, List.getElem?_eq_getElem (by omega)]
  rfl
theorem spot_succ {n : Nat} {g : Lg} (e : t.l[n]? = some g) : spot t (n + 1) = g.go (spot t n) := by
  unfold spot
  rw [List.take_succ, e]
  exact goes_app g _ _
/-- a row gets one entry more -/
theorem Row.push {K L z : Int} {xs : List Int} {n : Nat} {g : Lg} (h : Row t W a b K xs) (hn : xs.length = n + 1) (e : t.l[n]? = some g) (k : K ≤ L) (hz : xs.getLastD 0 ≤ z) (hL : z ≤ L) (hs : spot t (n + 1) * W = spot t n * W + pace t.v a b (spot t n) g * (z - xs.getLastD 0)) : Row t W a b L (xs ++ [z]) := by
  have l := h.last hn
  have hb := h.bd _ (List.mem_of_getElem? l)
  have hl := (List.getElem?_eq_some_iff.mp e).1
  refine ⟨by rw [List.getElem?_append_left (by omega)]; exact h.hd, by simp; omega, fun x hx => ?_, fun i x y g' h1 h2 h3 => ?_⟩
  · rcases List.mem_append.mp hx with hx | hx
    · have := h.bd x hx; omega
    · simp at hx; subst hx; omega
  · rcases Nat.lt_or_ge (i + 1) xs.length with q | q
    · rw [List.getElem?_append_left (by omega)] at h1 h2
      exact h.ch i x y g' h1 h2 h3
    · have hi : i = n := by
        have := (List.getElem?_eq_some_iff.mp h2).1
        simp at this; omega
      subst hi
      rw [List.getElem?_append_left (by omega), l] at h1
      cases h1
      rw [List.getElem?_append_right q, show i + 1 - xs.length = 0 by omega] at h2
      cases h2
      rw [e] at h3; cases h3
      exact ⟨hz, hs⟩
theorem Leg.pace {P N D L : Int} (h : Leg W P N D L) : P * L = D * W := by
  have e := h.eq
  rcases h.sgn with ⟨p, d⟩ | ⟨p, d⟩
  · rw [d, ← e, Int.mul_comm, show ((P.natAbs : Nat) : Int) = P by omega]
  · rw [d, Int.neg_mul, ← e, show ((P.natAbs : Nat) : Int) = -P by omega, Int.mul_neg, Int.neg_neg, Int.mul_comm]
theorem step_len {xs ys : List Int} : (stepRow W a b t xs ys).length = xs.length ∧ stepRow W a b t xs ys = xs ∨ (stepRow W a b t xs ys).length = xs.length + 1 := by
  unfold stepRow
  split
  · exact .inl ⟨rfl, rfl⟩
  · split
    · exact .inr (by simp)
    · exact .inl ⟨rfl, rfl⟩
  · exact .inr (by simp)
theorem Bo.step (h : Bo t W a b) {K : Int} {xs ys : List Int} (hx : Row t W a b K xs) (hy : ∀ y ∈ ys, 0 ≤ y ∧ y ≤ K) : Row t W a b (K + 9 * W) (stepRow W a b t xs ys) := by
  obtain ⟨n, hn⟩ : ∃ n, xs.length = n + 1 := ⟨xs.length - 1, by
    have := List.length_pos_iff.mpr hx.ne; omega⟩
  have W0 := h.W0
  have l := hx.last hn
  have hb := hx.bd _ (List.mem_of_getElem? l)
  rcases Nat.lt_or_ge n t.l.length with q | q
  · have eg : t.l[n]? = some t.l[n] := List.getElem?_eq_getElem q
    have hm := mov_at h.mv eg
    have hr := rng_at h.rg eg
    generalize t.l[n] = g at eg hm hr
    have sp := spot_succ eg
    by_cases hw : Lg.nw g = true
    · have lg := h.leg (h.spot n) hm hr hw
      rw [step_go hn eg hw]
      have := lg.L0; have := lg.L9
      refine hx.push hn eg (by omega) (by omega) (by omega) ?_
      rw [show xs.getLastD 0 + legT W t.v a b (K02.spot t n) g - xs.getLastD 0 = legT W t.v a b (K02.spot t n) g by omega, lg.pace, sp]
      have e : g.go (K02.spot t n) = g.n := by cases g <;> first | rfl | cases hw
      rw [e]; grind
    · obtain ⟨m, rfl⟩ : ∃ m, g = .wa m := by
        cases g with
        | wa m => exact ⟨m, rfl⟩
        | _ => exact absurd rfl hw
      rcases Nat.lt_or_ge m.toNat ys.length with qy | qy
      · have ey : ys[m.toNat]? = some ys[m.toNat] := List.getElem?_eq_getElem qy
        have := hy _ (List.getElem_mem qy)
        rw [step_wait hn eg ey]
        generalize ys[m.toNat] = y at this
        refine hx.push hn eg (by omega) (by split <;> omega) (by split <;> omega) ?_
        rw [sp]
        simp [Lg.go, K02.pace]
      · rw [step_stay hn eg (List.getElem?_eq_none qy)]
        exact hx.mono (by omega)
  · rw [step_none hn (List.getElem?_eq_none q)]
    exact hx.mono (by omega)
end
end K02
set_option maxHeartbeats 1000000
set_option maxRecDepth 10000
namespace K02
open PySem PySem.Spec PyProof.Rows L2 DV DV.Pl
/-! the clocks -/
section
variable {p : Pn} {a b : Int}
theorem Fl.bo (h : Fl p a b) : Bo p.a (Wh p a b) a b ∧ Bo p.b (Wh p a b) a b := by
  have vs := h.vs
  have p1 := h.pc vs.2.2.2.2.1 (by omega)
  have p2 := h.pc vs.2.2.2.2.2 (by omega)
  have k := (Pn.ok_iff' p).mp h.ok
  have k1 := (Bt.ok_iff _).mp k.1
  have k2 := (Bt.ok_iff _).mp k.2.1
  have a0 := h.a0
  have b0 := h.b0
  have bb := h.bb
  have s1 : Sm 28 (p.a.v * b - a) := by unfold Sm; omega
  have s2 : Sm 28 (p.a.v * b + a) := by unfold Sm; omega
  have s3 : Sm 28 (p.b.v * b - a) := by unfold Sm; omega
  have s4 : Sm 28 (p.b.v * b + a) := by unfold Sm; omega
  have s5 : Sm 28 a := by unfold Sm; omega
  have sW : Sm 140 (Wh p a b) := (((s1.mul s2).mul s3).mul s4).mul s5
  have W0 : 0 < Wh p a b := Int.mul_pos (Int.mul_pos (Int.mul_pos (Int.mul_pos p1.1 p1.2.2.2) p2.1) p2.2.2.2) a0
  refine ⟨⟨a0, b0, h.cp, h.sb, p1.1, p1.2.1, by omega, by omega, W0, sW, ⟨(p.a.v * b + a) * (p.b.v * b - a) * (p.b.v * b + a) * a, ?_⟩, ⟨(p.a.v * b - a) * (p.b.v * b - a) * (p.b.v * b + a) * a, ?_⟩, ⟨(p.a.v * b - a) * (p.a.v * b + a) * (p.b.v * b - a) * (p.b.v * b + a), ?_⟩, k1.2.2.1, k1.2.2.2.2, k1.2.2.2.1, k1.2.1.1, k1.2.1.2⟩,
    ⟨a0, b0, h.cp, h.sb, p2.1, p2.2.1, by omega, by omega, W0, sW, ⟨(p.a.v * b - a) * (p.a.v * b + a) * (p.b.v * b + a) * a, ?_⟩, ⟨(p.a.v * b - a) * (p.a.v * b + a) * (p.b.v * b - a) * a, ?_⟩, ⟨(p.a.v * b - a) * (p.a.v * b + a) * (p.b.v * b - a) * (p.b.v * b + a), ?_⟩, k2.2.2.1, k2.2.2.2.2, k2.2.2.2.1, k2.2.1.1, k2.2.1.2⟩⟩
  all_goals unfold Wh; grind
def KB (W : Int) (n m : Nat) : Int := 9 * W * ((n + m : Nat) : Int)
structure Two (p : Pn) (a b : Int) (xs ys : List Int) : Prop where
  x : Row p.a (Wh p a b) a b (KB (Wh p a b) xs.length ys.length) xs
  y : Row p.b (Wh p a b) a b (KB (Wh p a b) xs.length ys.length) ys
theorem KB_succ (W : Int) (n m : Nat) : KB W (n + 1) m = KB W n m + 9 * W ∧ KB W n (m + 1) = KB W n m + 9 * W := by
  unfold KB
  constructor
  · rw [show ((n + 1 + m : Nat) : Int) = ((n + m : Nat) : Int) + 1 by omega]; grind
  · rw [show ((n + (m + 1) : Nat) : Int) = ((n + m : Nat) : Int) + 1 by omega]; grind
def sA (p : Pn) (a b : Int) (xs ys : List Int) : List Int := stepRow (Wh p a b) a b p.a xs ys
def sB (p : Pn) (a b : Int) (xs ys : List Int) : List Int := stepRow (Wh p a b) a b p.b ys xs
theorem Two.sa (h : Fl p a b) {xs ys : List Int} (k : Two p a b xs ys) : Two p a b (sA p a b xs ys) ys := by
  have W0 := h.bo.1.W0
  rcases step_len (t := p.a) (W := Wh p a b) (a := a) (b := b) (xs := xs) (ys := ys) with q | q
  · unfold sA; rw [q.2]; exact k
  · have r := h.bo.1.step k.x k.y.bd
    unfold sA
    refine ⟨by rw [q, (KB_succ _ _ _).1]; exact r, ?_⟩
    rw [q, (KB_succ _ _ _).1]; exact k.y.mono (by omega)
theorem Two.sb (h : Fl p a b) {xs ys : List Int} (k : Two p a b xs ys) : Two p a b xs (sB p a b xs ys) := by
  have W0 := h.bo.1.W0
  rcases step_len (t := p.b) (W := Wh p a b) (a := a) (b := b) (xs := ys) (ys := xs) with q | q
  · unfold sB; rw [q.2]; exact k
  · have r := h.bo.2.step k.y k.x.bd
    unfold sB
    refine ⟨?_, by rw [q, (KB_succ _ _ _).2]; exact r⟩
    rw [q, (KB_succ _ _ _).2]; exact k.x.mono (by omega)
theorem Two.lens (h : Fl p a b) {xs ys : List Int} (k : Two p a b xs ys) : 1 ≤ xs.length ∧ xs.length ≤ 5 ∧ 1 ≤ ys.length ∧ ys.length ≤ 5 := by
  have := k.x.len; have := k.y.len; have := h.bo.1.l4; have := h.bo.2.l4
  have := List.length_pos_iff.mpr k.x.ne
  have := List.length_pos_iff.mpr k.y.ne
  omega
theorem Two.sm (h : Fl p a b) {xs ys : List Int} (k : Two p a b xs ys) : (∀ x ∈ xs, Sm 150 x ∧ 0 ≤ x) ∧ (∀ y ∈ ys, Sm 150 y ∧ 0 ≤ y) := by
  have l := k.lens h
  have sW := h.bo.1.sW
  have W0 := h.bo.1.W0
  have hb : KB (Wh p a b) xs.length ys.length ≤ 90 * Wh p a b := by
    unfold KB
    have : ((xs.length + ys.length : Nat) : Int) ≤ 10 := by omega
    have := Int.mul_le_mul_of_nonneg_left this (show (0 : Int) ≤ 9 * Wh p a b by omega)
    omega
  have gen : ∀ x : Int, 0 ≤ x ∧ x ≤ KB (Wh p a b) xs.length ys.length → Sm 150 x ∧ 0 ≤ x := fun x hx => by
    refine ⟨?_, hx.1⟩
    unfold Sm at sW ⊢
    have e : (2 : Nat) ^ 150 = 1024 * 2 ^ 140 := by decide
    rw [e]
    generalize (2 : Nat) ^ 140 = Z at sW
    omega
  exact ⟨fun x hx => gen x (k.x.bd x hx), fun y hy => gen y (k.y.bd y hy)⟩
def rw' (p : Pn) (a b : Int) (xs : List Int) : DV.D := .list (xs.map (tm (Wh p a b) b))
theorem clocks_turn (h : Fl p a b) {xs ys : List Int} (k : Two p a b xs ys) (s4 : Slot) (h4 : nb s4 = true) : ∃ e, evS B_clocks_1 ⟨[.val p.d, .val (.tuple [.int a, .int b]), .val (rw' p a b xs), .val (rw' p a b ys), s4], []⟩ =
    if (sA p a b xs ys).length + (sB p a b (sA p a b xs ys) ys).length = xs.length + ys.length then .ret (.list [rw' p a b (sA p a b xs ys), rw' p a b (sB p a b (sA p a b xs ys) ys)]) e
    else .next ⟨[.val p.d, .val (.tuple [.int a, .int b]), .val (rw' p a b (sA p a b xs ys)), .val (rw' p a b (sB p a b (sA p a b xs ys) ys)), .val (.int ((xs.length + ys.length : Nat) : Int))], []⟩ := by
  have l := k.lens h
  have s := k.sm h
  have k2 := k.sa h
  have l2 := k2.lens h
  have s2 := k2.sm h
  have o1 := r_one_more h.bo.1 xs ys k.x.ne k.x.len (by omega) (fun x hx => (s.1 x hx).1) (fun y hy => (s.2 y hy).1)
  have o2 := r_one_more h.bo.2 ys (sA p a b xs ys) k2.y.ne k2.y.len (by omega) (fun x hx => (s2.2 x hx).1) (fun y hy => (s2.1 y hy).1)
  have pa : ixD p.d (.int 0) = .ok p.a.d := by simp [Pn.d]
  have pb : ixD p.d (.int 1) = .ok p.b.d := by simp [Pn.d]
  change F_one_more.run _ = Out.ok (rw' p a b (sA p a b xs ys)) at o1
  change F_one_more.run _ = Out.ok (rw' p a b (sB p a b (sA p a b xs ys) ys)) at o2
  change F_one_more.run [p.a.d, rw' p a b xs, rw' p a b ys, _] = _ at o1
  change F_one_more.run [p.b.d, rw' p a b ys, rw' p a b (sA p a b xs ys), _] = _ at o2
  generalize hX : sA p a b xs ys = X at *
  generalize hY : sB p a b X ys = Y at *
  have ln : ∀ z : List Int, lenD [rw' p a b z] = .ok (.int (z.length : Int)) := fun z => by simp [rw']
  by_cases q : X.length + Y.length = xs.length + ys.length
  · have q2 : (X.length : Int) + (Y.length : Int) = (xs.length : Int) + (ys.length : Int) := by omega
    refine ⟨⟨[.val p.d, .val (.tuple [.int a, .int b]), .val (rw' p a b X), .val (rw' p a b Y), .val (.int ((xs.length : Int) + (ys.length : Int)))], []⟩, ?_⟩
    rw [if_pos q]
    simp [B_clocks_1, ln, free_nb h4, pa, pb, o1, o2, q2]
  · have q2 : ¬ ((X.length : Int) + (Y.length : Int) = (xs.length : Int) + (ys.length : Int)) := by omega
    refine ⟨⟨[], []⟩, ?_⟩
    rw [if_neg q]
    simp [B_clocks_1, ln, free_nb h4, pa, pb, o1, o2, q2]
def mkCk (p : Pn) (a b : Int) (xs ys : List Int) (mo : Bool) : Ck := ⟨p.d, .tuple [.int a, .int b], .list [rowD p.a.v a b, rowD p.b.v a b], .int (Wh p a b), xs, ys, mo⟩
theorem turn_a (h : Fl p a b) {xs ys : List Int} (k : Two p a b xs ys) (mo : Bool) : ckTurn I_law_clock false (mkCk p a b xs ys mo) = .ok (mkCk p a b (sA p a b xs ys) ys (!decide ((sA p a b xs ys).length = xs.length) || mo)) := by
  have l := k.lens h
  obtain ⟨s10, s11, s12, s13, h10, h11, h12, h13, e⟩ := inner_eq h.bo.1 p.d (.tuple [.int a, .int b]) (.list [rowD p.a.v a b, rowD p.b.v a b]) 0 mo (by simp [Pn.d]) (by simp) xs ys k.x.ne k.x.len (by omega)
  unfold ckTurn
  change (match evS I_law_clock _ with | .next e => ckOut e | _ => Out.bad) = _
  change evS I_law_clock (ckIn (mkCk p a b xs ys mo) 0 xs ys) = _ at e
  rw [show (mkCk p a b xs ys mo).xs = xs from rfl, show (mkCk p a b xs ys mo).ys = ys from rfl, e]
  have nv : ∀ d, nbS (.val d) = true := fun _ => rfl
  simp [ckOut, nv, obj, h10, h11, h12, h13, isD, intsD_map, mkCk, sA]
  congr
theorem turn_b (h : Fl p a b) {xs ys : List Int} (k : Two p a b xs ys) (mo : Bool) : ckTurn I_law_clock true (mkCk p a b xs ys mo) = .ok (mkCk p a b xs (sB p a b xs ys) (!decide ((sB p a b xs ys).length = ys.length) || mo)) := by
  have l := k.lens h
  obtain ⟨s10, s11, s12, s13, h10, h11, h12, h13, e⟩ := inner_eq h.bo.2 p.d (.tuple [.int a, .int b]) (.list [rowD p.a.v a b, rowD p.b.v a b]) 1 mo (by simp [Pn.d]) (by simp) ys xs k.y.ne k.y.len (by omega)
  unfold ckTurn
  change (match evS I_law_clock _ with | .next e => (ckOut e).map Ck.swap | _ => Out.bad) = _
  change evS I_law_clock (ckIn (mkCk p a b xs ys mo) 1 ys xs) = _ at e
  rw [show (mkCk p a b xs ys mo).xs = xs from rfl, show (mkCk p a b xs ys mo).ys = ys from rfl, e]
  have nv : ∀ d, nbS (.val d) = true := fun _ => rfl
  simp [ckOut, nv, obj, h10, h11, h12, h13, isD, intsD_map, mkCk, sB, Out.map, Ck.swap]
  congr
/-- nothing more can be done -/
structure Fin (p : Pn) (a b : Int) (xs ys : List Int) : Prop where
  two : Two p a b xs ys
  fa : sA p a b xs ys = xs
  fb : sB p a b xs ys = ys
theorem rest_eq (h : Fl p a b) {xs ys : List Int} (k : Two p a b xs ys) : ckRest I_law_clock 0 (mkCk p a b xs ys false) = .ok (mkCk p a b (sA p a b xs ys) (sB p a b (sA p a b xs ys) ys) (!decide ((sB p a b (sA p a b xs ys) ys).length = ys.length) || (!decide ((sA p a b xs ys).length = xs.length) || false))) := by
  show (ckTurn I_law_clock false (mkCk p a b xs ys false)).bind (ckTurn I_law_clock true) = _
  rw [turn_a h k]
  exact turn_b h (k.sa h) _
theorem loop_eq (h : Fl p a b) {xs ys : List Int} (k : Two p a b xs ys) (n : Nat) : ckLoop I_law_clock (n + 1) (mkCk p a b xs ys true) = ckLoop I_law_clock n (mkCk p a b (sA p a b xs ys) (sB p a b (sA p a b xs ys) ys) (!decide ((sB p a b (sA p a b xs ys) ys).length = ys.length) || (!decide ((sA p a b xs ys).length = xs.length) || false))) := by
  show (ckRest I_law_clock 0 (mkCk p a b xs ys false)).bind (ckLoop I_law_clock n) = _
  rw [rest_eq h k]
  rfl
theorem same_of {t : Bt} {W : Int} {xs ys : List Int} (h : (stepRow W a b t xs ys).length = xs.length) : stepRow W a b t xs ys = xs := by
  rcases step_len (t := t) (W := W) (a := a) (b := b) (xs := xs) (ys := ys) with q | q
  · exact q.2
  · omega
theorem clock_both (h : Fl p a b) : ∀ (k n m : Nat) (xs ys : List Int) (s4 : Slot), nb s4 = true → Two p a b xs ys → 10 ≤ xs.length + ys.length + k → k + 1 < n → k < m →
    ∃ xf yf e, Fin p a b xf yf ∧ ckLoop I_law_clock n (mkCk p a b xs ys true) = .ok (mkCk p a b xf yf false) ∧
      loopS (evT (.cst (.bool true))) (evS B_clocks_1) m ⟨[.val p.d, .val (.tuple [.int a, .int b]), .val (rw' p a b xs), .val (rw' p a b ys), s4], []⟩ = .ret (.list [rw' p a b xf, rw' p a b yf]) e := by
  intro k
  induction k with
  | zero =>
    intro n m xs ys s4 h4 t hl hn hm
    obtain ⟨n, rfl⟩ : ∃ q, n = q + 2 := ⟨n - 2, by omega⟩
    obtain ⟨m, rfl⟩ : ∃ q, m = q + 1 := ⟨m - 1, by omega⟩
    obtain ⟨e, ct⟩ := clocks_turn h t s4 h4
    have t2 := t.sa h
    have t3 := t2.sb h
    have l3 := t3.lens h
    rw [loop_eq h t]
    rw [loop_succ]
    have q1 := step_len (t := p.a) (W := Wh p a b) (a := a) (b := b) (xs := xs) (ys := ys)
    have q2 := step_len (t := p.b) (W := Wh p a b) (a := a) (b := b) (xs := ys) (ys := sA p a b xs ys)
    change (sA p a b xs ys).length = xs.length ∧ sA p a b xs ys = xs ∨ (sA p a b xs ys).length = xs.length + 1 at q1
    change (sB p a b (sA p a b xs ys) ys).length = ys.length ∧ sB p a b (sA p a b xs ys) ys = ys ∨ (sB p a b (sA p a b xs ys) ys).length = ys.length + 1 at q2
    have e1 : (sA p a b xs ys).length = xs.length := by omega
    have e2 : (sB p a b (sA p a b xs ys) ys).length = ys.length := by omega
    have a1 : sA p a b xs ys = xs := same_of e1
    rw [a1] at e2 ct ⊢
    have a2 : sB p a b xs ys = ys := same_of e2
    rw [a2] at ct ⊢
    refine ⟨xs, ys, e, ⟨t, a1, a2⟩, ?_, ?_⟩
    · simp only [decide_true, Bool.not_true, Bool.or_self]; rfl
    · rw [if_pos rfl] at ct
      simp [evT, ct]
  | succ k ih =>
    intro n m xs ys s4 h4 t hl hn hm
    obtain ⟨n, rfl⟩ : ∃ q, n = q + 2 := ⟨n - 2, by omega⟩
    obtain ⟨m, rfl⟩ : ∃ q, m = q + 1 := ⟨m - 1, by omega⟩
    obtain ⟨e, ct⟩ := clocks_turn h t s4 h4
    have t2 := t.sa h
    have t3 := t2.sb h
    have q1 := step_len (t := p.a) (W := Wh p a b) (a := a) (b := b) (xs := xs) (ys := ys)
    have q2 := step_len (t := p.b) (W := Wh p a b) (a := a) (b := b) (xs := ys) (ys := sA p a b xs ys)
    change (sA p a b xs ys).length = xs.length ∧ sA p a b xs ys = xs ∨ (sA p a b xs ys).length = xs.length + 1 at q1
    change (sB p a b (sA p a b xs ys) ys).length = ys.length ∧ sB p a b (sA p a b xs ys) ys = ys ∨ (sB p a b (sA p a b xs ys) ys).length = ys.length + 1 at q2
    rw [loop_eq h t, loop_succ]
    by_cases q : (sA p a b xs ys).length + (sB p a b (sA p a b xs ys) ys).length = xs.length + ys.length
    · have e1 : (sA p a b xs ys).length = xs.length := by omega
      have e2 : (sB p a b (sA p a b xs ys) ys).length = ys.length := by omega
      have a1 : sA p a b xs ys = xs := same_of e1
      rw [a1] at e2 ct ⊢
      have a2 : sB p a b xs ys = ys := same_of e2
      rw [a2] at ct ⊢
      refine ⟨xs, ys, e, ⟨t, a1, a2⟩, ?_, ?_⟩
      · simp only [decide_true, Bool.not_true, Bool.or_self]; rfl
      · rw [if_pos rfl] at ct
        simp [evT, ct]
    · rw [if_neg q] at ct
      obtain ⟨xf, yf, e', f1, f2, f3⟩ := ih (n + 1) m _ _ (.val (.int ((xs.length + ys.length : Nat) : Int))) rfl t3 (by omega) (by omega) (by omega)
      refine ⟨xf, yf, e', f1, ?_, ?_⟩
      · rw [← f2]
        congr 2
        by_cases e1 : (sA p a b xs ys).length = xs.length
        · have e2 : ¬ (sB p a b (sA p a b xs ys) ys).length = ys.length := by omega
          simp [e2]
        · simp [e1]
      · simp [evT, ct]
        simpa [evT] using f3
end
end K02
set_option maxHeartbeats 1000000
set_option maxRecDepth 10000
namespace K02
open PySem PySem.Spec PyProof.Rows L2 DV DV.Pl
/-! both clocks -/
section
variable {p : Pn} {a b : Int}
theorem lay_lg (g : Lg) : PyData.canLay0 g.d = true := by
  cases g <;> simp [Lg.d, PyData.canLay0, PyData.canLayAll0, so_to, so_drift, so_wait]
theorem lay_lgs : ∀ l : List Lg, PyData.canLayAll0 (l.map Lg.d) = true
  | [] => by simp [PyData.canLayAll0]
  | g :: l => by simp [PyData.canLayAll0, lay_lg g, lay_lgs l]
theorem lay_pn (p : Pn) : PyData.canLay0 p.d = true := by
  simp [Pn.d, Bt.d, PyData.canLay0, PyData.canLayAll0, lay_lgs]
theorem Two.zero (h : Fl p a b) : Two p a b [0] [0] := by
  have W0 := h.bo.1.W0
  have gen : ∀ t : Bt, Row t (Wh p a b) a b (KB (Wh p a b) 1 1) [0] := fun t => ⟨rfl, by simp, fun x hx => by
    simp at hx; subst hx; unfold KB; omega, fun i x y g h1 h2 => by simp at h2⟩
  exact ⟨gen _, gen _⟩
theorem tm_zero (h : Fl p a b) : tm (Wh p a b) b 0 = .tuple [.int 0, .int 1] := by
  have W0 := h.bo.1.W0
  unfold tm
  rw [fr_eq (m := 0) (e := 1) W0 (by decide) (by simp)]
  exact fr_low (by decide) (by decide)
theorem r_clocks (h : Fl p a b) : ∃ xf yf, Fin p a b xf yf ∧ F_clocks.run [p.d, .tuple [.int a, .int b]] = .ok (.list [rw' p a b xf, rw' p a b yf]) ∧ F_law_clock.run [p.d, .tuple [.int a, .int b]] = .ok (.list [.list (isD xf), .list (isD yf)]) := by
  obtain ⟨xf, yf, e, f1, f2, f3⟩ := clock_both h 8 1000000 1000000 [0] [0] .no rfl (.zero h) (by decide) (by decide) (by decide)
  refine ⟨xf, yf, f1, ?_, ?_⟩
  · have e0 : rw' p a b [0] = .list [.tuple [.int 0, .int 1]] := by unfold rw'; rw [List.map_singleton, tm_zero h]
    rw [e0] at f3
    simp [F_clocks, f3]
  · have lp := r_law_paces h
    have e1 : ckF I_law_clock ⟨[.val p.d, .val (.tuple [.int a, .int b]), .val (.list [rowD p.a.v a b, rowD p.b.v a b]), .val (.int (Wh p a b)), .no, .no, .no, .no, .no, .no, .no, .no, .no, .no], []⟩ = .ret (.list [.list (isD xf), .list (isD yf)]) noEn := by
      unfold ckF
      dsimp only
      rw [if_pos (by simp [lay_pn, PyData.canLay0, PyData.canLayAll0, rowD])]
      unfold ckFrom
      rw [show (⟨p.d, .tuple [.int a, .int b], .list [rowD p.a.v a b, rowD p.b.v a b], .int (Wh p a b), [0], [0], true⟩ : Ck) = mkCk p a b [0] [0] true from rfl, f2]
      rfl
    simp [F_law_clock, lp, clock, e1]
end
end K02
set_option maxHeartbeats 1000000
set_option maxRecDepth 10000
namespace K02
open PySem PySem.Spec PyProof.Rows L2 DV DV.Pl
/-! where a boat is -/
def pcAt (t : Bt) (a b : Int) (i : Nat) : Int := match t.l[i]? with
  | some g => pace t.v a b (spot t i) g
  | none => 0
/-- the place (over W * q) at the time m / q; legs i .. i + k -/
def posF (t : Bt) (W a b : Int) (xs : List Int) (m q : Int) : Nat → Nat → Int
  | i, 0 => spot t i * W * q
  | i, k + 1 => if m < xs.getD (i + 1) 0 * q then spot t i * W * q + pcAt t a b i * (m - xs.getD i 0 * q) else posF t W a b xs m q (i + 1) k
def pos (t : Bt) (W a b : Int) (xs : List Int) (m q : Int) : Int := posF t W a b xs m q 0 (xs.length - 1)
section
variable {t : Bt} {W a b : Int}
theorem sg_neg (i : Int) : (sg i < 0) ↔ i < 0 := by
  unfold sg
  split
  · omega
  · split <;> omega
theorem then_turn (h : Bo t W a b) (xs : List Int) (sx : ∀ x ∈ xs, Sm 150 x) (m q : Int) (q0 : 0 < q) (sm : Sm 400 m) (sq : Sm 400 q) (i : Nat) (hi : i + 1 < xs.length) (hl : xs.length ≤ t.l.length + 1) (s4 s5 s6 : Slot) (h5 : nb s5 = true) (h6 : nb s6 = true) :
    ∃ e, evS B_place_then_1 ⟨[.val t.d, .val (.list (xs.map (tm W b))), .val (fr (m * b) (q * W)), .val (.tuple [.int a, .int b]), .val (.int i), s5, s6], []⟩ =
      if m < xs.getD (i + 1) 0 * q then .ret (fr (spot t i * W * q + pcAt t a b i * (m - xs.getD i 0 * q)) (W * q)) e
      else .next ⟨[.val t.d, .val (.list (xs.map (tm W b))), .val (fr (m * b) (q * W)), .val (.tuple [.int a, .int b]), .val (.int i), s5, s6], []⟩ := by
  have W0 := h.W0
  have b0 := h.b0
  have eg : t.l[i]? = some t.l[i] := List.getElem?_eq_getElem (by omega)
  have ixg : ixD (.tuple (t.l.map Lg.d)) (.int i) = .ok (t.l[i]).d := ix_tup (by omega) (by simp [eg])
  have pe : pcAt t a b i = pace t.v a b (spot t i) t.l[i] := by unfold pcAt; rw [eg]
  have pc := r_pace_of h t.l[i] (spot t i)
  rw [← pe] at pc
  have sp : Sm 28 (pcAt t a b i) := by
    have := h.v1; have := h.v2; have := h.a0
    have := h.v0
    have hv : 0 < t.v * b := Int.mul_pos (by omega) b0
    rw [pe]
    unfold pace Sm
    split
    · split <;> omega
    · omega
    · omega
  have pl := r_place_ahead t i (by have := h.l4; omega)
  have e0 : xs[i]? = some (xs.getD i 0) := by rw [List.getD_eq_getElem?_getD, List.getElem?_eq_getElem (by omega)]; rfl
  have e1 : xs[i + 1]? = some (xs.getD (i + 1) 0) := by rw [List.getD_eq_getElem?_getD, List.getElem?_eq_getElem (by omega)]; rfl
  have sx0 := sx _ (List.mem_of_getElem? e0)
  have sx1 := sx _ (List.mem_of_getElem? e1)
  generalize xs.getD i 0 = x at *
  generalize xs.getD (i + 1) 0 = y at *
  generalize t.l[i] = g at *
  generalize pcAt t a b i = P at *
  have hs := h.spot i
  generalize spot t i = s at *
  have ix0 : ixD (.list (xs.map (tm W b))) (.int i) = .ok (tm W b x) := ix_lst (by omega) (by rw [List.getElem?_map, show (i : Int).toNat = i by omega, e0]; rfl)
  have ix1 : ixD (.list (xs.map (tm W b))) (.int (i + 1 : Int)) = .ok (tm W b y) := ix_lst (by omega) (by rw [List.getElem?_map, show (i + 1 : Int).toNat = i + 1 by omega, e1]; rfl)
  have td : ixD t.d (.int 2) = .ok (.tuple (t.l.map Lg.d)) := by simp [Bt.d]
  have qW0 : 0 < q * W := Int.mul_pos q0 W0
  have smb : Sm 600 (m * b) := (sm.mul h.sb).mono (by decide)
  have sqW : Sm 600 (q * W) := (sq.mul h.sW).mono (by decide)
  have sW6 : Sm 600 W := h.sW.mono (by decide)
  have sxb : Sm 600 (x * b) := (sx0.mul h.sb).mono (by decide)
  have syb : Sm 600 (y * b) := (sx1.mul h.sb).mono (by decide)
  have od := r_order (k := 600) qW0 W0 smb sqW syb sW6 (by decide)
  have ee : m * b * W - y * b * (q * W) = (b * W) * (m - y * q) := by grind
  rw [ee, sg_mul (Int.mul_pos b0 W0)] at od
  change F_order.run [fr (m * b) (q * W), tm W b y] = _ at od
  have mi := r_minus (k := 600) qW0 W0 smb sqW sxb sW6 (by decide)
  change F_minus.run [fr (m * b) (q * W), tm W b x] = _ at mi
  by_cases c : m < y * q
  · have c1 : sg (m - y * q) < 0 := (sg_neg _).mpr (by omega)
    have D0 : 0 < q * W * W := Int.mul_pos qW0 W0
    have sN : Sm 1300 (m * b * W - x * b * (q * W)) := ((smb.mul sW6).sub (sxb.mul sqW)).mono (by decide)
    have sD : Sm 1300 (q * W * W) := (sqW.mul sW6).mono (by decide)
    have ti := r_times (k := 1300) b0 D0 (sp.mono (by decide)) (h.sb.mono (by decide)) sN sD (by decide)
    have pls := r_plus (k := 1400) (n := s) (d := 1) (by decide) (Int.mul_pos b0 D0) (by unfold Sm; omega) (by unfold Sm; decide) ((sp.mul sN).mono (by decide)) ((h.sb.mul sD).mono (by decide)) (by decide)
    have fs : fr s 1 = .tuple [.int s, .int 1] := fr_low (by decide) (by simp)
    have fe : fr (s * (b * (q * W * W)) + P * (m * b * W - x * b * (q * W)) * 1) (1 * (b * (q * W * W))) = fr (s * W * q + P * (m - x * q)) (W * q) := fr_eq (by rw [Int.one_mul]; exact Int.mul_pos b0 D0) (Int.mul_pos W0 q0) (by grind)
    rw [fe, fs] at pls
    refine ⟨⟨[.val t.d, .val (.list (xs.map (tm W b))), .val (fr (m * b) (q * W)), .val (.tuple [.int a, .int b]), .val (.int i), .val (.int s), .val (fr P b)], []⟩, ?_⟩
    rw [if_pos c]
    simp [B_place_then_1, ix1, od, c1, free_nb h5, free_nb h6, pl, td, ixg, pc, ix0, mi, ti, pls]
  · have c1 : ¬ sg (m - y * q) < 0 := fun z => by have := (sg_neg _).mp z; omega
    refine ⟨⟨[], []⟩, ?_⟩
    rw [if_neg c]
    simp [B_place_then_1, ix1, od, c1]
theorem then_loop (h : Bo t W a b) (xs : List Int) (sx : ∀ x ∈ xs, Sm 150 x) (m q : Int) (q0 : 0 < q) (sm : Sm 400 m) (sq : Sm 400 q) (hl : xs.length ≤ t.l.length + 1) : ∀ (k i : Nat) (s4 s5 s6 : Slot), i + k + 1 = xs.length → nb s4 = true → nb s5 = true → nb s6 = true →
    ∃ e s4', nb s4' = true ∧ (eachS (asg (.name 4)) (evS B_place_then_1) (rngL i k) ⟨[.val t.d, .val (.list (xs.map (tm W b))), .val (fr (m * b) (q * W)), .val (.tuple [.int a, .int b]), s4, s5, s6], []⟩ = .ret (fr (posF t W a b xs m q i k) (W * q)) e ∨
      (posF t W a b xs m q i k = spot t (i + k) * W * q ∧ eachS (asg (.name 4)) (evS B_place_then_1) (rngL i k) ⟨[.val t.d, .val (.list (xs.map (tm W b))), .val (fr (m * b) (q * W)), .val (.tuple [.int a, .int b]), s4, s5, s6], []⟩ = .next ⟨[.val t.d, .val (.list (xs.map (tm W b))), .val (fr (m * b) (q * W)), .val (.tuple [.int a, .int b]), s4', s5, s6], []⟩))
  | 0, i, s4, s5, s6, hk, h4, h5, h6 => ⟨⟨[], []⟩, s4, h4, .inr ⟨rfl, rfl⟩⟩
  | k + 1, i, s4, s5, s6, hk, h4, h5, h6 => by
    obtain ⟨e, ct⟩ := then_turn h xs sx m q q0 sm sq i (by omega) hl (.val (.int i)) s5 s6 h5 h6
    obtain ⟨e2, s4', n4, ih⟩ := then_loop h xs sx m q q0 sm sq hl k (i + 1) (.val (.int i)) s5 s6 (by omega) rfl h5 h6
    unfold rngL posF
    rw [each_cons]
    by_cases c : m < xs.getD (i + 1) 0 * q
    · rw [if_pos c] at ct ⊢
      refine ⟨e, .no, rfl, .inl ?_⟩
      simp [free_nb h4, ct]
    · rw [if_neg c] at ct ⊢
      refine ⟨e2, s4', n4, ?_⟩
      rw [show i + (k + 1) = i + 1 + k by omega]
      rcases ih with ih | ⟨ih1, ih⟩
      · left
        simp [free_nb h4, ct]
        exact ih
      · right
        refine ⟨ih1, ?_⟩
        simp [free_nb h4, ct]
        exact ih
theorem r_place_then (h : Bo t W a b) (xs : List Int) (sx : ∀ x ∈ xs, Sm 150 x) (m q : Int) (q0 : 0 < q) (sm : Sm 400 m) (sq : Sm 400 q) (hl : xs.length ≤ t.l.length + 1) (hx : xs ≠ []) :
    F_place_then.run [t.d, .list (xs.map (tm W b)), fr (m * b) (q * W), .tuple [.int a, .int b]] = .ok (fr (pos t W a b xs m q) (W * q)) := by
  obtain ⟨n, hn⟩ : ∃ n, xs.length = n + 1 := ⟨xs.length - 1, by
    have := List.length_pos_iff.mpr hx; omega⟩
  have l4 := h.l4
  have W0 := h.W0
  obtain ⟨e, s4', n4, lp⟩ := then_loop h xs sx m q q0 sm sq hl n 0 .no .no .no (by omega) rfl rfl rfl
  have rg := rngD_ok (n := n) (by omega)
  have pl := r_place_ahead t n (by omega)
  unfold pos
  rw [hn, Nat.add_sub_cancel]
  rcases lp with lp | ⟨e1, lp⟩
  · simp only [show ((0 : Nat) : Int) = 0 from rfl] at lp
    simp [F_place_then, hn, rg, lp]
  · simp only [show ((0 : Nat) : Int) = 0 from rfl] at lp
    rw [e1, Nat.zero_add]
    have fs : fr (spot t n * W * q) (W * q) = .tuple [.int (spot t n), .int 1] := by
      rw [fr_eq (m := spot t n) (e := 1) (Int.mul_pos W0 q0) (by decide) (by grind)]
      exact fr_low (by decide) (by simp)
    rw [fs]
    simp [F_place_then, hn, rg, lp, pl]
end
end K02
set_option maxHeartbeats 1000000
set_option maxRecDepth 10000
namespace K02
open PySem PySem.Spec PyProof.Rows L2 DV DV.Pl
/-! the law's places -/
section
variable {t : Bt} {W a b : Int}
theorem Bo.pc28 (h : Bo t W a b) (i : Nat) : Sm 28 (pcAt t a b i) := by
  have := h.v1; have := h.v2; have := h.a0; have := h.v0; have b0 := h.b0
  have hv : 0 < t.v * b := Int.mul_pos (by omega) b0
  unfold pcAt
  split
  · unfold pace Sm
    split
    · split <;> omega
    · omega
    · omega
  · unfold Sm; decide
theorem there_turn (h : Bo t W a b) (P F R A : DV.D) (w T : Int) (hp : ixD P (.int w) = .ok t.d) (ha : ixD A (.int w) = .ok (rowD t.v a b)) (xs : List Int) (sx : ∀ x ∈ xs, Sm 150 x) (sT : Sm 170 T) (i : Nat) (hi : i + 1 < xs.length) (hl : xs.length ≤ t.l.length + 1) (s10 : Slot) (h10 : nb s10 = true) :
    ∃ e, evS B_law_there_1 ⟨[.val P, .val F, .val R, .val (.int w), .val (.int T), .val (.int i), .val A, .val (.int W), .val (.list ((spotsL t.s t.l).map PyData.int)), .val (.list (isD xs)), s10], []⟩ =
      if T < xs.getD (i + 1) 0 * 1 then .ret (.int (spot t i * W * 1 + pcAt t a b i * (T - xs.getD i 0 * 1))) e
      else .next ⟨[.val P, .val F, .val R, .val (.int w), .val (.int T), .val (.int i), .val A, .val (.int W), .val (.list ((spotsL t.s t.l).map PyData.int)), .val (.list (isD xs)), s10], []⟩ := by
  simp only [Int.mul_one]
  have eg : t.l[i]? = some t.l[i] := List.getElem?_eq_getElem (by omega)
  have ixg : ixD (.tuple (t.l.map Lg.d)) (.int i) = .ok (t.l[i]).d := ix_tup (by omega) (by simp [eg])
  have pe : pcAt t a b i = pace t.v a b (spot t i) t.l[i] := by unfold pcAt; rw [eg]
  have pc := r_law_pace t.l[i] (spot t i) t.v a b
  rw [← pe] at pc
  have sp := h.pc28 i
  have e0 : xs[i]? = some (xs.getD i 0) := by rw [List.getD_eq_getElem?_getD, List.getElem?_eq_getElem (by omega)]; rfl
  have e1 : xs[i + 1]? = some (xs.getD (i + 1) 0) := by rw [List.getD_eq_getElem?_getD, List.getElem?_eq_getElem (by omega)]; rfl
  have sx0 := sx _ (List.mem_of_getElem? e0)
  have ixs : ixD (.list ((spotsL t.s t.l).map PyData.int)) (.int i) = .ok (.int (spot t i)) := ix_lst (by omega) (by rw [List.getElem?_map, show (i : Int).toNat = i by omega, spotsL_get _ _ _ (by omega)]; rfl)
  generalize xs.getD i 0 = x at *
  generalize xs.getD (i + 1) 0 = y at *
  generalize t.l[i] = g at *
  generalize pcAt t a b i = Q at *
  have hs := h.spot i
  generalize spot t i = s at *
  have ix0 : ixD (.list (isD xs)) (.int i) = .ok (.int x) := ix_lst (by omega) (by unfold isD; rw [List.getElem?_map, show (i : Int).toNat = i by omega, e0]; rfl)
  have ix1 : ixD (.list (isD xs)) (.int (i + 1 : Int)) = .ok (.int y) := ix_lst (by omega) (by unfold isD; rw [List.getElem?_map, show (i + 1 : Int).toNat = i + 1 by omega, e1]; rfl)
  have td : ixD t.d (.int 2) = .ok (.tuple (t.l.map Lg.d)) := by simp [Bt.d]
  have m1 := mulD_sm (k := 4) (i := s) (by unfold Sm; omega) h.sW (by decide)
  have m2 := mulD_sm sp (sT.sub (sx0.mono (by decide : 150 ≤ 170))) (by decide)
  by_cases c : T < y
  · refine ⟨⟨[.val P, .val F, .val R, .val (.int w), .val (.int T), .val (.int i), .val A, .val (.int W), .val (.list ((spotsL t.s t.l).map PyData.int)), .val (.list (isD xs)), .val (.int Q)], []⟩, ?_⟩
    rw [if_pos c]
    simp [B_law_there_1, ix1, c, hp, td, ixg, ixs, ha, pc, ix0, m1, m2, free_nb h10]
  · refine ⟨⟨[], []⟩, ?_⟩
    rw [if_neg c]
    simp [B_law_there_1, ix1, c]
theorem there_loop (h : Bo t W a b) (P F R A : DV.D) (w T : Int) (hp : ixD P (.int w) = .ok t.d) (ha : ixD A (.int w) = .ok (rowD t.v a b)) (xs : List Int) (sx : ∀ x ∈ xs, Sm 150 x) (sT : Sm 170 T) (hl : xs.length ≤ t.l.length + 1) (s10 : Slot) (h10 : nb s10 = true) : ∀ (k i : Nat) (s5 : Slot), i + k + 1 = xs.length → nb s5 = true →
    ∃ e s5', (eachS (asg (.name 5)) (evS B_law_there_1) (rngL i k) ⟨[.val P, .val F, .val R, .val (.int w), .val (.int T), s5, .val A, .val (.int W), .val (.list ((spotsL t.s t.l).map PyData.int)), .val (.list (isD xs)), s10], []⟩ = .ret (.int (posF t W a b xs T 1 i k)) e ∨
      (posF t W a b xs T 1 i k = spot t (i + k) * W * 1 ∧ eachS (asg (.name 5)) (evS B_law_there_1) (rngL i k) ⟨[.val P, .val F, .val R, .val (.int w), .val (.int T), s5, .val A, .val (.int W), .val (.list ((spotsL t.s t.l).map PyData.int)), .val (.list (isD xs)), s10], []⟩ = .next ⟨[.val P, .val F, .val R, .val (.int w), .val (.int T), s5', .val A, .val (.int W), .val (.list ((spotsL t.s t.l).map PyData.int)), .val (.list (isD xs)), s10], []⟩))
  | 0, i, s5, hk, h5 => ⟨⟨[], []⟩, s5, .inr ⟨rfl, rfl⟩⟩
  | k + 1, i, s5, hk, h5 => by
    obtain ⟨e, ct⟩ := there_turn h P F R A w T hp ha xs sx sT i (by omega) hl s10 h10
    obtain ⟨e2, s5', ih⟩ := there_loop h P F R A w T hp ha xs sx sT hl s10 h10 k (i + 1) (.val (.int i)) (by omega) rfl
    unfold rngL posF
    rw [each_cons]
    by_cases c : T < xs.getD (i + 1) 0 * 1
    · rw [if_pos c] at ct ⊢
      refine ⟨e, .no, .inl ?_⟩
      simp [free_nb h5, ct]
    · rw [if_neg c] at ct ⊢
      refine ⟨e2, s5', ?_⟩
      rw [show i + (k + 1) = i + 1 + k by omega]
      rcases ih with ih | ⟨ih1, ih⟩
      · left
        simp [free_nb h5, ct]
        exact ih
      · right
        refine ⟨ih1, ?_⟩
        simp [free_nb h5, ct]
        exact ih
theorem there_run (h : Bo t W a b) (P F A R0 : DV.D) (R : List (List Int)) (w T : Int) (hp : ixD P (.int w) = .ok t.d) (ha : ixD A (.int w) = .ok (rowD t.v a b)) (hpc : F_law_paces.run [P, F] = .ok (.tuple [A, .int W])) (xs : List Int) (hR : ixD R0 (.int w) = .ok (.list (isD xs))) (sx : ∀ x ∈ xs, Sm 150 x) (sT : Sm 170 T) (hl : xs.length ≤ t.l.length + 1) (hx : xs ≠ []) :
    F_law_there.run [P, F, R0, .int w, .int T] = .ok (.int (pos t W a b xs T 1)) := by
  obtain ⟨n, hn⟩ : ∃ n, xs.length = n + 1 := ⟨xs.length - 1, by
    have := List.length_pos_iff.mpr hx; omega⟩
  have l4 := h.l4
  obtain ⟨e, s5', lp⟩ := there_loop h P F R0 A w T hp ha xs sx sT hl .no rfl n 0 .no (by omega) rfl
  have rg := rngD_ok (n := n) (by omega)
  have sp := r_law_spots t l4
  have ln : (isD xs).length = n + 1 := by unfold isD; rw [List.length_map, hn]
  have ixs : ixD (.list ((spotsL t.s t.l).map PyData.int)) (.int n) = .ok (.int (spot t n)) := ix_lst (by omega) (by rw [List.getElem?_map, show (n : Int).toNat = n by omega, spotsL_get _ _ _ (by omega)]; rfl)
  have hs := h.spot n
  have m1 := mulD_sm (k := 4) (i := spot t n) (by unfold Sm; omega) h.sW (by decide)
  unfold pos
  rw [hn, Nat.add_sub_cancel]
  simp only [show ((0 : Nat) : Int) = 0 from rfl] at lp
  rcases lp with lp | ⟨e1, lp⟩
  · simp [F_law_there, hpc, hp, sp, hR, ln, rg, lp]
  · rw [e1, Nat.zero_add]
    simp [F_law_there, hpc, hp, sp, hR, ln, rg, lp, ixs, m1]
end
section
variable {p : Pn} {a b : Int}
/-- place of boat w in whole numbers, at m / q -/
def Pos (p : Pn) (a b : Int) (xs ys : List Int) (w : Bool) (m q : Int) : Int := match w with
  | false => pos p.a (Wh p a b) a b xs m q
  | true => pos p.b (Wh p a b) a b ys m q
theorem r_there (h : Fl p a b) {xs ys : List Int} (k : Two p a b xs ys) (w : Bool) (T : Int) (sT : Sm 170 T) :
    F_law_there.run [p.d, .tuple [.int a, .int b], .list [.list (isD xs), .list (isD ys)], .int (if w = true then 1 else 0), .int T] = .ok (.int (Pos p a b xs ys w T 1)) := by
  have s := k.sm h
  have lp := r_law_paces h
  cases w with
  | false => exact there_run h.bo.1 p.d _ _ _ [] 0 T (by simp [Pn.d]) (by simp) lp xs (by simp) (fun x hx => (s.1 x hx).1) sT k.x.len k.x.ne
  | true => exact there_run h.bo.2 p.d _ _ _ [] 1 T (by simp [Pn.d]) (by simp) lp ys (by simp) (fun x hx => (s.2 x hx).1) sT k.y.len k.y.ne
theorem r_then (h : Fl p a b) {xs ys : List Int} (k : Two p a b xs ys) (w : Bool) (m q : Int) (q0 : 0 < q) (sm : Sm 400 m) (sq : Sm 400 q) :
    F_place_then.run [if w = true then p.b.d else p.a.d, if w = true then rw' p a b ys else rw' p a b xs, fr (m * b) (q * Wh p a b), .tuple [.int a, .int b]] = .ok (fr (Pos p a b xs ys w m q) (Wh p a b * q)) := by
  have s := k.sm h
  cases w with
  | false => exact r_place_then h.bo.1 xs (fun x hx => (s.1 x hx).1) m q q0 sm sq k.x.len k.x.ne
  | true => exact r_place_then h.bo.2 ys (fun x hx => (s.2 x hx).1) m q q0 sm sq k.y.len k.y.ne
end
end K02
set_option maxHeartbeats 1000000
set_option maxRecDepth 10000
namespace K02
open PySem PySem.Spec PyProof.Rows L2 DV DV.Pl
/-! the marks -/
abbrev Srt (l : List Int) : Prop := l.Pairwise fun x y => ltI x y = true
theorem ins_cut (T : Int) : ∀ L : List Int, Srt L → T ∉ L → insR ltI T L = L.take (L.filter fun x => decide (x < T)).length ++ [T] ++ L.drop (L.filter fun x => decide (x < T)).length
  | [], _, _ => rfl
  | y :: r, h, hn => by
    obtain ⟨h1, h2⟩ := List.pairwise_cons.mp h
    simp at hn
    have ih := ins_cut T r h2 hn.2
    unfold insR
    by_cases q : T < y
    · have e : (y :: r).filter (fun x => decide (x < T)) = [] := by
        rw [List.filter_eq_nil_iff]
        intro z hz
        rcases List.mem_cons.mp hz with rfl | hz
        · simp; omega
        · have := h1 z hz; simp [ltI] at this ⊢; omega
      rw [e]
      simp [ltI, q]
    · have q2 : y < T := by omega
      rw [if_neg (by simp [ltI]; omega), if_pos (by simp [ltI]; omega), ih]
      simp [List.filter_cons, q2]
section
variable {W b : Int}
theorem tm_pair (W0 : 0 < W) (b0 : 0 < b) {T : Int} (h : 0 ≤ T) : ∃ z : Int × Int, tm W b T = DV.pairD z ∧ 0 ≤ z.1 ∧ 0 ≤ z.2 := by
  obtain ⟨g, x, y, h1, h2, h3, h4, h5, h6, _⟩ := fr_parts (T * b) W0
  refine ⟨(x, y), by unfold tm; rw [h6], ?_, by show 0 ≤ y; omega⟩
  have : 0 ≤ g * x := by rw [← h3]; exact Int.mul_nonneg h (by omega)
  show 0 ≤ x
  rcases Int.lt_or_le x 0 with q | q
  · have := Int.mul_neg_of_pos_of_neg h1 q; omega
  · exact q
theorem tm_inj (W0 : 0 < W) (b0 : 0 < b) {S T : Int} (h : tm W b S = tm W b T) : S = T := by
  have := fr_inj W0 W0 h
  have := Int.eq_of_mul_eq_mul_right (Int.ne_of_gt W0) this
  exact Int.eq_of_mul_eq_mul_right (Int.ne_of_gt b0) this
theorem tms_pairs (W0 : 0 < W) (b0 : 0 < b) : ∀ l : List Int, (∀ T ∈ l, 0 ≤ T) → ∃ ps : List (Int × Int), l.map (tm W b) = ps.map DV.pairD ∧ ps.all (fun p => decide (0 ≤ p.1) && decide (0 ≤ p.2)) = true
  | [], _ => ⟨[], rfl, rfl⟩
  | T :: l, h => by
    obtain ⟨z, e, z1, z2⟩ := tm_pair W0 b0 (h T List.mem_cons_self)
    obtain ⟨ps, e2, a⟩ := tms_pairs W0 b0 l fun x hx => h x (List.mem_cons_of_mem _ hx)
    exact ⟨z :: ps, by rw [List.map_cons, e, e2]; rfl, by simp [z1, z2, a]⟩
theorem pairD_inj {x y : Int × Int} (h : DV.pairD x = DV.pairD y) : x = y := by
  injection h with h
  injection h with h1 h
  injection h with h2 h
  injection h1 with h1
  injection h2 with h2
  exact Prod.ext h1 h2
theorem pick (W0 : 0 < W) (b0 : 0 < b) (S : List Int) : ∀ l : List (Int × Int), (∀ z ∈ l, ∃ T ∈ S, DV.pairD z = tm W b T) → l.Nodup → ∃ Ts : List Int, l.map DV.pairD = Ts.map (tm W b) ∧ (∀ T ∈ Ts, T ∈ S) ∧ Ts.Nodup
  | [], _, _ => ⟨[], rfl, by simp, List.nodup_nil⟩
  | z :: l, h, hn => by
    obtain ⟨T, hT, e⟩ := h z List.mem_cons_self
    obtain ⟨h1, h2⟩ := List.nodup_cons.mp hn
    obtain ⟨Ts, e2, m, nd⟩ := pick W0 b0 S l (fun x hx => h x (List.mem_cons_of_mem _ hx)) h2
    refine ⟨T :: Ts, by rw [List.map_cons, List.map_cons, e, e2], fun x hx => ?_, List.nodup_cons.mpr ⟨fun hx => h1 ?_, nd⟩⟩
    · rcases List.mem_cons.mp hx with rfl | hx
      · exact hT
      · exact m x hx
    · have : tm W b T ∈ Ts.map (tm W b) := List.mem_map_of_mem hx
      rw [← e2, ← e] at this
      obtain ⟨y, hy, ey⟩ := List.mem_map.mp this
      rw [← pairD_inj ey]; exact hy
theorem srt_len {t : Type} (lt : t → t → Bool) (l : List t) : (srtR lt l).length ≤ l.length := by
  induction l with
  | nil => exact Nat.le_refl _
  | cons x r ih =>
    have : ∀ l : List t, (insR lt x l).length ≤ l.length + 1 := fun l => by
      induction l with
      | nil => exact Nat.le_refl _
      | cons y l ih2 =>
        unfold insR
        split
        · simp
        · split
          · simp; omega
          · simp
    have := this (srtR lt r)
    simp only [srtR, List.length_cons]; omega
/-- the program's sorted set of times: the times of whole numbers, each once -/
theorem srt_tms (W0 : 0 < W) (b0 : 0 < b) (l : List Int) (h0 : ∀ T ∈ l, 0 ≤ T) (hl : l.length < 64) (hne : l ≠ []) : ∃ Ts : List Int, srtD [.list (l.map (tm W b))] = .ok (.list (Ts.map (tm W b))) ∧ (∀ T, T ∈ Ts ↔ T ∈ l) ∧ Ts.Nodup ∧ Ts.length ≤ l.length := by
  obtain ⟨ps, e, a⟩ := tms_pairs W0 b0 l h0
  have nodup : (srtR ltP ps).Nodup := List.Pairwise.imp (fun {x y} h z => by subst z; rw [ord_P.irr] at h; cases h) (srtR_pw ord_P ps)
  obtain ⟨Ts, e2, m, nd⟩ := pick W0 b0 l (srtR ltP ps) (fun z hz => by
    have hz := (srtR_mem ord_P z ps).mp hz
    have : DV.pairD z ∈ l.map (tm W b) := by rw [e]; exact List.mem_map_of_mem hz
    obtain ⟨T, hT, eT⟩ := List.mem_map.mp this
    exact ⟨T, hT, eT.symm⟩) nodup
  have ni : intsD (ps.map DV.pairD) = none := by
    cases ps with
    | nil =>
      cases l with
      | nil => exact absurd rfl hne
      | cons _ _ => cases e
    | cons z ps => rfl
  have ll : ps.length < 64 := by
    have := congrArg List.length e
    simp at this; omega
  have l1 := srt_len ltP ps
  have l2 := congrArg List.length e
  have l3 := congrArg List.length e2
  simp only [List.length_map] at l2 l3
  refine ⟨Ts, ?_, fun T => ⟨m T, fun hT => ?_⟩, nd, by omega⟩
  · unfold srtD
    rw [e]
    simp only [List.length_map]
    rw [if_pos ll, ni, pairsD_map]
    simp only
    rw [if_pos a, e2]
  · have h1 : tm W b T ∈ l.map (tm W b) := List.mem_map_of_mem hT
    rw [e] at h1
    obtain ⟨z, hz, ez⟩ := List.mem_map.mp h1
    have h2 : DV.pairD z ∈ (srtR ltP ps).map DV.pairD := List.mem_map_of_mem ((srtR_mem ord_P z ps).mpr hz)
    rw [e2] at h2
    obtain ⟨U, hU, eU⟩ := List.mem_map.mp h2
    rw [ez] at eU
    rw [← tm_inj W0 b0 eU]; exact hU
end
end K02
set_option maxHeartbeats 1000000
set_option maxRecDepth 10000
namespace K02
open PySem PySem.Spec PyProof.Rows L2 DV DV.Pl
section
variable {W b : Int}
theorem marks_turn (W0 : 0 < W) (b0 : 0 < b) (sW : Sm 200 W) (sb : Sm 24 b) (R : DV.D) (L : List Int) (T : Int) (hL : Srt L) (hT : T ∉ L) (sL : ∀ x ∈ L, Sm 150 x) (sT : Sm 150 T) (ll : L.length < 1000) (s3 : Slot) (h3 : nb s3 = true) :
    evS B_marks_of_1 ⟨[.val R, .val (.list (L.map (tm W b))), .val (tm W b T), s3, .no], []⟩ = .next ⟨[.val R, .val (.list ((insR ltI T L).map (tm W b))), .val (tm W b T), .val (.int ((L.filter fun x => decide (x < T)).length : Int)), .no], []⟩ := by
  have od : ∀ x ∈ L, F_order.run [tm W b x, tm W b T] = .ok (.int (sg (x - T))) := fun x hx => by
    have od := r_order (k := 200) W0 W0 (((sL x hx).mul sb).mono (by decide)) sW ((sT.mul sb).mono (by decide)) sW (by decide)
    have ee : x * b * W - T * b * W = (b * W) * (x - T) := by grind
    rw [ee, sg_mul (Int.mul_pos b0 W0)] at od
    exact od
  have hc := comp_tc (i := 4) (f := .var 4) (c := .cmp .lt (.call "order" F_order.run (.cons (.var 4) (.cons (.var 2) .nil))) (.cst (.int 0))) (e := ⟨[.val R, .val (.list (L.map (tm W b))), .val (tm W b T), s3, .no], []⟩) (tm W b) (fun x => decide (x < T)) (tm W b) L rfl (by omega)
    (fun x hx => by
      have e1 : decide (sg (x - T) < 0) = decide (x < T) := decide_eq_decide.mpr ⟨fun h => by have := (sg_neg _).mp h; omega, fun h => (sg_neg _).mpr (by omega)⟩
      simp [od x hx, e1]) (fun x hx _ => by simp)
  have cut := ins_cut T L hL hT
  have kl : (L.filter fun x => decide (x < T)).length ≤ L.length := List.length_filter_le _ _
  generalize (L.filter fun x => decide (x < T)) = fl at *
  have c1 := cut_to (L.map (tm W b)) fl.length
  have c2 := cut_from (L.map (tm W b)) fl.length
  have a1 := addL ((L.map (tm W b)).take fl.length) [tm W b T] (by simp; omega)
  have a2 := addL ((L.map (tm W b)).take fl.length ++ [tm W b T]) ((L.map (tm W b)).drop fl.length) (by simp; omega)
  have e2 : (insR ltI T L).map (tm W b) = (L.map (tm W b)).take fl.length ++ [tm W b T] ++ (L.map (tm W b)).drop fl.length := by
    rw [cut]; simp [List.map_take, List.map_drop]
  rw [e2]
  generalize hX : L.map (tm W b) = X at *
  simp [B_marks_of_1, hc, free_nb h3, sliceD, c1, c2, a1, a2]
theorem marks_loop (W0 : 0 < W) (b0 : 0 < b) (sW : Sm 200 W) (sb : Sm 24 b) (R : DV.D) : ∀ (Ts L : List Int) (s2 s3 : Slot), nb s2 = true → nb s3 = true → Srt L → Ts.Nodup → (∀ T ∈ Ts, T ∉ L) → (∀ x ∈ L, Sm 150 x) → (∀ T ∈ Ts, Sm 150 T) → L.length + Ts.length < 1000 →
    ∃ (L' : List Int) (t2 t3 : Slot), Srt L' ∧ (∀ z, z ∈ L' ↔ z ∈ L ∨ z ∈ Ts) ∧ eachS (asg (.name 2)) (evS B_marks_of_1) (Ts.map (tm W b)) ⟨[.val R, .val (.list (L.map (tm W b))), s2, s3, .no], []⟩ = .next ⟨[.val R, .val (.list (L'.map (tm W b))), t2, t3, .no], []⟩
  | [], L, s2, s3, h2, h3, hL, _, _, _, _, _ => ⟨L, s2, s3, hL, by simp, rfl⟩
  | T :: Ts, L, s2, s3, h2, h3, hL, nd, hd, sL, sT, hl => by
    obtain ⟨n1, n2⟩ := List.nodup_cons.mp nd
    simp only [List.length_cons] at hl
    have ct := marks_turn W0 b0 sW sb R L T hL (hd T List.mem_cons_self) sL (sT T List.mem_cons_self) (by omega) s3 h3
    have mem := fun z => insR_mem ord_I T z L
    have len : (insR ltI T L).length = L.length + 1 := by
      rw [ins_cut T L hL (hd T List.mem_cons_self)]
      have := List.length_filter_le (fun x => decide (x < T)) L
      simp; omega
    obtain ⟨L', t2, t3, p1, p2, p3⟩ := marks_loop W0 b0 sW sb R Ts (insR ltI T L) (.val (tm W b T)) (.val (.int ((L.filter fun x => decide (x < T)).length : Int))) rfl rfl (insR_pw ord_I T L hL) n2
      (fun U hU z => by
        rcases (mem U).mp z with rfl | z
        · exact n1 hU
        · exact hd U (List.mem_cons_of_mem _ hU) z)
      (fun x hx => by
        rcases (mem x).mp hx with rfl | z
        · exact sT _ List.mem_cons_self
        · exact sL x z)
      (fun U hU => sT U (List.mem_cons_of_mem _ hU)) (by omega)
    refine ⟨L', t2, t3, p1, fun z => ?_, ?_⟩
    · rw [p2, mem, List.mem_cons]; grind
    · rw [List.map_cons, each_cons]
      simp [free_nb h2, ct]
      exact p3
end
section
variable {p : Pn} {a b : Int}
@[simp] theorem i_ext (x : Fm) (es : E) (e : En) : (ev (.ext x es)).i e = ((ev (.ext x es)).v e).bind kI := (rfl)
def Mk (xs ys : List Int) : List Int := srtR ltI (xs ++ ys)
theorem r_marks_of (h : Fl p a b) {xs ys : List Int} (k : Two p a b xs ys) : F_marks_of.run [.list [rw' p a b xs, rw' p a b ys]] = .ok (.list ((Mk xs ys).map (tm (Wh p a b) b))) := by
  have W0 := h.bo.1.W0
  have s := k.sm h
  have l := k.lens h
  have sW : Sm 200 (Wh p a b) := h.bo.1.sW.mono (by decide)
  have sxy : ∀ T ∈ xs ++ ys, Sm 150 T ∧ 0 ≤ T := fun T hT => by
    rcases List.mem_append.mp hT with q | q
    · exact s.1 T q
    · exact s.2 T q
  obtain ⟨Ts, e1, e2, e3, e4⟩ := srt_tms W0 h.b0 (xs ++ ys) (fun T hT => (sxy T hT).2) (by simp; omega) (by
    intro z
    have := congrArg List.length z
    simp only [List.length_append, List.length_nil] at this
    omega)
  simp only [List.length_append] at e4
  obtain ⟨L', t2, t3, p1, p2, p3⟩ := marks_loop W0 h.b0 sW h.sb (.list [rw' p a b xs, rw' p a b ys]) Ts [] .no .no rfl rfl List.Pairwise.nil e3 (by simp) (by simp) (fun T hT => (sxy T ((e2 T).mp hT)).1) (by simp only [List.length_nil]; omega)
  have eL : L' = Mk xs ys := pw_uniq ord_I _ _ p1 (srtR_pw ord_I _) fun z => by
    rw [p2]
    simp [e2, Mk, srtR_mem ord_I]
  subst eL
  have ad : addD (rw' p a b xs) (rw' p a b ys) = .ok (.list ((xs ++ ys).map (tm (Wh p a b) b))) := by
    unfold rw'
    rw [addL _ _ (by simp; omega), List.map_append]
  have st : srtF.f [.list (xs.map (tm (Wh p a b) b) ++ ys.map (tm (Wh p a b) b))] = .ok (.list (Ts.map (tm (Wh p a b) b))) := by rw [← List.map_append]; exact e1
  rw [List.map_nil] at p3
  simp [F_marks_of, ad, st, p3]
end
end K02
set_option maxHeartbeats 1000000
set_option maxRecDepth 10000
namespace K02
open PySem PySem.Spec PyProof.Rows L2 DV DV.Pl
/-! places and gaps at the marks -/
section
variable {t : Bt} {W a b : Int}
theorem posF_sm (h : Bo t W a b) (xs : List Int) (sx : ∀ x ∈ xs, Sm 150 x) {m q : Int} {e f K : Nat} (sm : Sm e m) (sq : Sm f q) (k1 : 144 + f ≤ K) (k2 : 29 + e ≤ K) (k3 : 179 + f ≤ K) : ∀ k i, Sm (K + 1) (posF t W a b xs m q i k)
  | 0, i => by
    have hs := h.spot i
    unfold posF
    exact (((Sm.mul (k := 4) (by unfold Sm; omega) h.sW).mul sq).mono (by omega))
  | k + 1, i => by
    have hs := h.spot i
    have s0 : Sm 150 (xs.getD i 0) := by
      rw [List.getD_eq_getElem?_getD]
      cases e : xs[i]? with
      | none => show Sm 150 0; unfold Sm; decide
      | some x => exact sx x (List.mem_of_getElem? e)
    unfold posF
    split
    · have a1 : Sm K (spot t i * W * q) := ((Sm.mul (k := 4) (by unfold Sm; omega) h.sW).mul sq).mono (by omega)
      have a2 : Sm K (pcAt t a b i * (m - xs.getD i 0 * q)) := by
        rcases Nat.le_total e (150 + f) with g | g
        · exact ((h.pc28 i).mul ((sm.mono g).sub (s0.mul sq))).mono (by omega)
        · exact ((h.pc28 i).mul (sm.sub ((s0.mul sq).mono g))).mono (by omega)
      exact a1.add a2
    · exact posF_sm h xs sx sm sq k1 k2 k3 k (i + 1)
end
section
variable {p : Pn} {a b : Int}
theorem Pos_sm (h : Fl p a b) {xs ys : List Int} (k : Two p a b xs ys) (w : Bool) {m q : Int} {e f K : Nat} (sm : Sm e m) (sq : Sm f q) (k1 : 144 + f ≤ K) (k2 : 29 + e ≤ K) (k3 : 179 + f ≤ K) : Sm (K + 1) (Pos p a b xs ys w m q) := by
  have s := k.sm h
  cases w with
  | false => exact posF_sm h.bo.1 xs (fun x hx => (s.1 x hx).1) sm sq k1 k2 k3 _ _
  | true => exact posF_sm h.bo.2 ys (fun x hx => (s.2 x hx).1) sm sq k1 k2 k3 _ _
/-- the gap at T -/
def gp (p : Pn) (a b : Int) (xs ys : List Int) (T : Int) : Int := Pos p a b xs ys false T 1 - Pos p a b xs ys true T 1
theorem mk_sm (h : Fl p a b) {xs ys : List Int} (k : Two p a b xs ys) {T : Int} (hT : T ∈ Mk xs ys) : Sm 150 T ∧ 0 ≤ T := by
  have s := k.sm h
  have hT := (srtR_mem ord_I T _).mp hT
  rcases List.mem_append.mp hT with q | q
  · exact s.1 T q
  · exact s.2 T q
def plD (p : Pn) (a b : Int) (xs ys : List Int) (w : Bool) (T : Int) : DV.D := fr (Pos p a b xs ys w T 1) (Wh p a b)
theorem r_then1 (h : Fl p a b) {xs ys : List Int} (k : Two p a b xs ys) (w : Bool) {T : Int} (sT : Sm 150 T) : F_place_then.run [if w = true then p.b.d else p.a.d, if w = true then rw' p a b ys else rw' p a b xs, tm (Wh p a b) b T, .tuple [.int a, .int b]] = .ok (plD p a b xs ys w T) := by
  have := r_then h k w T 1 (by decide) (sT.mono (by decide)) (by unfold Sm; decide)
  rw [Int.one_mul, Int.mul_one] at this
  exact this
theorem r_gap (h : Fl p a b) {xs ys : List Int} (k : Two p a b xs ys) {T : Int} (sT : Sm 150 T) : F_minus.run [plD p a b xs ys false T, plD p a b xs ys true T] = .ok (fr (gp p a b xs ys T) (Wh p a b)) := by
  have W0 := h.bo.1.W0
  have s1 : Sm 1 1 := by unfold Sm; decide
  have sW : Sm 250 (Wh p a b) := h.bo.1.sW.mono (by decide)
  have mi := r_minus (k := 250) W0 W0 ((Pos_sm h k false (K := 200) sT s1 (by decide) (by decide) (by decide)).mono (by decide)) sW ((Pos_sm h k true (K := 200) sT s1 (by decide) (by decide) (by decide)).mono (by decide)) sW (by decide)
  unfold plD
  rw [mi]
  congr 1
  refine fr_eq (Int.mul_pos W0 W0) W0 ?_
  unfold gp
  grind
def metE (p : Pn) (a b : Int) (xs ys : List Int) (x10 x13 : Slot) : En := ⟨[.val p.d, .val (.tuple [.int a, .int b]), .val (.list [rw' p a b xs, rw' p a b ys]), .val (.list ((Mk xs ys).map (tm (Wh p a b) b))), .no, .no, .no, .no, .no, .no, x10, .no, .no, x13, .no, .no, .no], []⟩
theorem met_places (h : Fl p a b) {xs ys : List Int} (k : Two p a b xs ys) (hl : (Mk xs ys).length ≤ 1000) :
    (ev (.comp (.comp (.call "place_then" F_place_then.run (.cons (.ix (.var 0) (.var 13)) (.cons (.ix (.var 2) (.var 13)) (.cons (.var 10) (.cons (.var 1) .nil))))) (.name 10) (.var 3) .no [10]) (.name 13) (.tup (.cons (.cst (.int (0))) (.cons (.cst (.int (1))) .nil))) .no [13])).v (metE p a b xs ys .no .no)
      = .ok (.list [.list ((Mk xs ys).map (plD p a b xs ys false)), .list ((Mk xs ys).map (plD p a b xs ys true))], metE p a b xs ys .no .no) := by
  have inner : ∀ w : Bool, compL (asg (.name 10)) (ev .no).c (ev (.call "place_then" F_place_then.run (.cons (.ix (.var 0) (.var 13)) (.cons (.ix (.var 2) (.var 13)) (.cons (.var 10) (.cons (.var 1) .nil)))))).v [10] ((Mk xs ys).map (tm (Wh p a b) b)) (metE p a b xs ys .no (.val (.int (wI w)))) [] = .ok ((Mk xs ys).map (plD p a b xs ys w), metE p a b xs ys .no (.val (.int (wI w)))) := fun w => by
    refine comp_t (tm (Wh p a b) b) (plD p a b xs ys w) (Mk xs ys) rfl (by omega) fun T hT => ?_
    have r := r_then1 h k w (mk_sm h k hT).1
    cases w with
    | false =>
      simp only [Bool.false_eq_true, if_false] at r
      simp [metE, wI, Pn.d] 
      simp [r]
    | true =>
      simp only [if_true] at r
      simp [metE, wI, Pn.d]
      simp [r]
  have outer := comp_t (i := 13) (e := metE p a b xs ys .no .no) (f := .comp (.call "place_then" F_place_then.run (.cons (.ix (.var 0) (.var 13)) (.cons (.ix (.var 2) (.var 13)) (.cons (.var 10) (.cons (.var 1) .nil))))) (.name 10) (.var 3) .no [10]) (fun w : Bool => PyData.int (wI w)) (fun w => PyData.list ((Mk xs ys).map (plD p a b xs ys w))) [false, true] rfl (by decide) (fun w _ => by
    have i := inner w
    simp [metE] at i ⊢
    simp [i])
  simp [metE, wI] at outer ⊢
  simp [outer]
end
end K02
set_option maxHeartbeats 1000000
set_option maxRecDepth 10000
namespace K02
open PySem PySem.Spec PyProof.Rows L2 DV DV.Pl
/-! places between two whole times -/
section
variable {t : Bt} {W a b K : Int} {xs : List Int}
theorem posF_hom (c m q : Int) (c0 : 0 < c) : ∀ k i, posF t W a b xs (c * m) (c * q) i k = c * posF t W a b xs m q i k
  | 0, i => by unfold posF; grind
  | k + 1, i => by
    unfold posF
    have e : c * m < xs.getD (i + 1) 0 * (c * q) ↔ m < xs.getD (i + 1) 0 * q := by
      rw [show xs.getD (i + 1) 0 * (c * q) = c * (xs.getD (i + 1) 0 * q) by grind]
      exact ⟨fun h => Int.lt_of_mul_lt_mul_left h (by omega), fun h => Int.mul_lt_mul_of_pos_left h c0⟩
    simp only [e]
    split
    · grind
    · exact posF_hom c m q c0 k (i + 1)
theorem pc_of {i : Nat} {g : Lg} (e : t.l[i]? = some g) : pcAt t a b i = pace t.v a b (spot t i) g := by unfold pcAt; rw [e]
theorem getD_of {i : Nat} (h : i < xs.length) : xs[i]? = some (xs.getD i 0) := by rw [List.getD_eq_getElem?_getD, List.getElem?_eq_getElem h]; rfl
theorem Row.leg (h : Row t W a b K xs) {i : Nat} (hi : i + 1 < xs.length) : xs.getD i 0 ≤ xs.getD (i + 1) 0 ∧ spot t (i + 1) * W = spot t i * W + pcAt t a b i * (xs.getD (i + 1) 0 - xs.getD i 0) := by
  have l := h.len
  have eg : t.l[i]? = some t.l[i] := List.getElem?_eq_getElem (by omega)
  rw [pc_of eg]
  exact h.ch i _ _ _ (getD_of (by omega)) (getD_of hi) eg
theorem posF_node (h : Row t W a b K xs) : ∀ k i, i + k + 1 = xs.length → posF t W a b xs (xs.getD i 0) 1 i k = spot t i * W
  | 0, i, _ => by unfold posF; rw [Int.mul_one]
  | k + 1, i, hk => by
    obtain ⟨l1, l2⟩ := h.leg (i := i) (by omega)
    have ih := posF_node h k (i + 1) (by omega)
    unfold posF
    by_cases q : xs.getD i 0 < xs.getD (i + 1) 0 * 1
    · rw [if_pos q]; grind
    · rw [if_neg q]
      have e : xs.getD (i + 1) 0 = xs.getD i 0 := by omega
      rw [e] at ih l2
      rw [ih, l2]; grind
theorem posF_lin (h : Row t W a b K xs) (low r q : Int) (r0 : 0 ≤ r) (rq : r < q) : ∀ k i, i + k + 1 = xs.length → posF t W a b xs (low * q + r) q i k = q * posF t W a b xs low 1 i k + (posF t W a b xs (low + 1) 1 i k - posF t W a b xs low 1 i k) * r
  | 0, i, _ => by unfold posF; grind
  | k + 1, i, hk => by
    obtain ⟨l1, l2⟩ := h.leg (i := i) (by omega)
    have ih := posF_lin h low r q r0 rq k (i + 1) (by omega)
    have nd := posF_node h k (i + 1) (by omega)
    have e1 : low * q + r < xs.getD (i + 1) 0 * q ↔ low < xs.getD (i + 1) 0 := by
      constructor
      · intro z
        rcases Int.lt_or_le low (xs.getD (i + 1) 0) with y | y
        · exact y
        · have := Int.mul_le_mul_of_nonneg_right y (show (0 : Int) ≤ q by omega)
          omega
      · intro z
        have := Int.mul_le_mul_of_nonneg_right (show low + 1 ≤ xs.getD (i + 1) 0 by omega) (show (0 : Int) ≤ q by omega)
        rw [Int.add_mul, Int.one_mul] at this
        omega
    have e2 : low < xs.getD (i + 1) 0 * 1 ↔ low < xs.getD (i + 1) 0 := by rw [Int.mul_one]
    have e3 : low + 1 < xs.getD (i + 1) 0 * 1 ↔ low + 1 < xs.getD (i + 1) 0 := by rw [Int.mul_one]
    unfold posF
    simp only [e1, e2, e3]
    by_cases c : low < xs.getD (i + 1) 0
    · rw [if_pos c, if_pos c]
      by_cases c2 : low + 1 < xs.getD (i + 1) 0
      · rw [if_pos c2]; grind
      · rw [if_neg c2]
        have e : xs.getD (i + 1) 0 = low + 1 := by omega
        rw [e] at nd l2
        rw [nd, l2]; grind
    · rw [if_neg c, if_neg c, if_neg (by omega)]
      exact ih
theorem pos_lin (h : Row t W a b K xs) (low r q : Int) (r0 : 0 ≤ r) (rq : r < q) : pos t W a b xs (low * q + r) q = q * pos t W a b xs low 1 + (pos t W a b xs (low + 1) 1 - pos t W a b xs low 1) * r := by
  have := List.length_pos_iff.mpr h.ne
  exact posF_lin h low r q r0 rq _ _ (by omega)
end
section
variable {p : Pn} {a b : Int}
theorem Pos_hom {xs ys : List Int} (w : Bool) (c m q : Int) (c0 : 0 < c) : Pos p a b xs ys w (c * m) (c * q) = c * Pos p a b xs ys w m q := by
  cases w <;> exact posF_hom c m q c0 _ _
theorem Pos_lin {xs ys : List Int} (k : Two p a b xs ys) (w : Bool) (low r q : Int) (r0 : 0 ≤ r) (rq : r < q) : Pos p a b xs ys w (low * q + r) q = q * Pos p a b xs ys w low 1 + (Pos p a b xs ys w (low + 1) 1 - Pos p a b xs ys w low 1) * r := by
  cases w
  · exact pos_lin k.x low r q r0 rq
  · exact pos_lin k.y low r q r0 rq
end
end K02
set_option maxHeartbeats 1000000
set_option maxRecDepth 10000
namespace K02
open PySem PySem.Spec PyProof.Rows L2 DV DV.Pl
/-! the time of a crossing -/
theorem fr_negs {A D : Int} (hD : D < 0) : ∃ x y : Int, fr A D = .tuple [.int (-x), .int (-y)] ∧ fr (-A) (-D) = .tuple [.int x, .int y] ∧ 0 < y := by
  obtain ⟨g, x, y, h1, h2, h3, h4, h5, h6, h7⟩ := low_parts (a := -A) (b := -D) (by omega)
  have hy : 0 < y := Int.pos_of_mul_pos_right (a := g) (by omega) h1
  refine ⟨x, y, ?_, ?_, hy⟩
  · unfold fr
    have e : (Int.gcd A D : Int) = g := by rw [h7]; congr 1; rw [Int.neg_gcd, Int.gcd_neg]
    have eA : A = g * (-x) := by rw [Int.mul_neg]; omega
    have eD : D = g * (-y) := by rw [Int.mul_neg]; omega
    rw [e]
    congr 2
    · congr 1
      conv => lhs; rw [eA]
      exact Int.mul_ediv_cancel_left _ (by omega)
    · congr 2
      conv => lhs; rw [eD]
      exact Int.mul_ediv_cancel_left _ (by omega)
  · unfold fr; rw [h4, h5]
section
variable {p : Pn} {a b : Int}
/-- the law's own words for the time: m over q -/
def crM (T T2 g1 g2 : Int) : Int := T * (g1.natAbs + g2.natAbs : Int) + g1.natAbs * (T2 - T)
def crQ (g1 g2 : Int) : Int := g1.natAbs + g2.natAbs
theorem r_crossed {W b T T2 g1 g2 : Int} (W0 : 0 < W) (sW : Sm 140 W) (sb : Sm 24 b) (sT : Sm 150 T) (sT2 : Sm 150 T2) (s1 : Sm 210 g1) (s2 : Sm 210 g2) (hg : (0 < g1 ∧ g2 < 0) ∨ (g1 < 0 ∧ 0 < g2)) :
    F_crossed.run [.tuple [fr g1 W, fr g2 W], tm W b T, tm W b T2] = .ok (fr (crM T T2 g1 g2 * b) (crQ g1 g2 * W)) := by
  obtain ⟨k1, n1, d1, k10, d10, e1, e2, _, f1, l1, l2⟩ := fr_parts g1 W0
  obtain ⟨k2, n2, d2, k20, d20, e3, e4, _, f2, l3, l4⟩ := fr_parts g2 W0
  rw [f1, f2]
  have sn1 := s1.le l1
  have sd1 := sW.le l2
  have sn2 := s2.le l3
  have sd2 := sW.le l4
  have m1 := mulD_sm sn1 sd2 (by decide)
  have m2 := mulD_sm sn2 sd1 (by decide)
  have sA : Sm 400 (n1 * d2) := (sn1.mul sd2).mono (by decide)
  have sD : Sm 400 (n1 * d2 - n2 * d1) := ((sn1.mul sd2).sub (sn2.mul sd1)).mono (by decide)
  have key : k1 * k2 * (n1 * d2 - n2 * d1) = W * (g1 - g2) := by grind
  have key2 : (n1 * d2) * (g1 - g2) = g1 * (n1 * d2 - n2 * d1) := by
    refine Int.eq_of_mul_eq_mul_left (Int.ne_of_gt (Int.mul_pos k10 k20)) ?_
    grind
  have kk : 0 < k1 * k2 := Int.mul_pos k10 k20
  have sTb : Sm 400 (T * b) := (sT.mul sb).mono (by decide)
  have sTb2 : Sm 400 (T2 * b) := (sT2.mul sb).mono (by decide)
  have sW4 : Sm 400 W := sW.mono (by decide)
  have mi := r_minus (k := 400) W0 W0 sTb2 sW4 sTb sW4 (by decide)
  change F_minus.run [tm W b T2, tm W b T] = _ at mi
  have WW : 0 < W * W := Int.mul_pos W0 W0
  have sN : Sm 900 (T2 * b * W - T * b * W) := ((sTb2.mul sW4).sub (sTb.mul sW4)).mono (by decide)
  have sWW : Sm 900 (W * W) := (sW4.mul sW4).mono (by decide)
  -- the share, made good
  have fin : ∀ A D : Int, 0 < D → Sm 400 A → Sm 400 D → A * crQ g1 g2 = (g1.natAbs : Int) * D → ∃ z, F_times.run [fr A D, fr (T2 * b * W - T * b * W) (W * W)] = .ok z ∧ F_plus.run [tm W b T, z] = .ok (fr (crM T T2 g1 g2 * b) (crQ g1 g2 * W)) := fun A D D0 sA sD eq => by
    have ti := r_times (k := 900) D0 WW (sA.mono (by decide)) (sD.mono (by decide)) sN sWW (by decide)
    have pl := r_plus (k := 1400) W0 (Int.mul_pos D0 WW) (sTb.mono (by decide)) (sW4.mono (by decide)) ((sA.mul sN).mono (by decide)) ((sD.mul sWW).mono (by decide)) (by decide)
    refine ⟨_, ti, ?_⟩
    change F_plus.run [tm W b T, _] = _ at pl
    rw [pl]
    congr 1
    have q0 : 0 < crQ g1 g2 := by unfold crQ; omega
    refine fr_eq (Int.mul_pos W0 (Int.mul_pos D0 WW)) (Int.mul_pos q0 W0) ?_
    unfold crM
    rw [show ((g1.natAbs : Int) + g2.natAbs) = crQ g1 g2 from rfl]
    generalize crQ g1 g2 = q at *
    generalize (g1.natAbs : Int) = u at *
    have : (T * b * (D * (W * W)) + A * (T2 * b * W - T * b * W) * W) * (q * W) = (T * b * D * q + (A * q) * (T2 * b - T * b)) * (W * W * W) := by grind
    rw [this, eq]
    grind
  rcases hg with ⟨h1, h2⟩ | ⟨h1, h2⟩
  · have D0 : 0 < n1 * d2 - n2 * d1 := Int.pos_of_mul_pos_right (a := k1 * k2) (by rw [key]; exact Int.mul_pos W0 (by omega)) kk
    have lw := r_lowest (a := n1 * d2) (Int.ne_of_gt D0) sD (by decide)
    obtain ⟨z, t1, t2⟩ := fin _ _ D0 sA sD (by unfold crQ; rw [show ((g1.natAbs : Int) + g2.natAbs) = g1 - g2 by omega, key2, show (g1.natAbs : Int) = g1 by omega])
    obtain ⟨g, x, y, _, y0, _, _, _, f3, _, _⟩ := fr_parts (n1 * d2) D0
    have ny : ¬ y < 0 := by omega
    rw [f3] at lw t1
    simp [F_crossed, m1, m2, lw, ny, mi, t1, t2]
  · have D0 : n1 * d2 - n2 * d1 < 0 := by
      have : 0 < k1 * k2 * (-(n1 * d2 - n2 * d1)) := by
        rw [Int.mul_neg, key, ← Int.mul_neg]; exact Int.mul_pos W0 (by omega)
      have := Int.pos_of_mul_pos_right this kk
      omega
    have lw := r_lowest (a := n1 * d2) (Int.ne_of_lt D0) sD (by decide)
    obtain ⟨z, t1, t2⟩ := fin (-(n1 * d2)) (-(n1 * d2 - n2 * d1)) (by omega) sA.neg sD.neg (by unfold crQ; rw [show ((g1.natAbs : Int) + g2.natAbs) = -(g1 - g2) by omega, Int.neg_mul_neg, key2, show (g1.natAbs : Int) = -g1 by omega, Int.neg_mul_neg])
    obtain ⟨x, y, f3, f4, y0⟩ := fr_negs (A := n1 * d2) D0
    rw [f3] at lw
    rw [f4] at t1
    have ny : -y < 0 := by omega
    simp [F_crossed, m1, m2, lw, ny, y0, mi, t1, t2]
end
end K02
set_option maxHeartbeats 4000000
set_option maxRecDepth 10000
namespace K02
open PySem PySem.Spec PyProof.Rows L2 DV DV.Pl
/-! the program's meetings: one mark -/
def bD : Option DV.D → DV.D
  | none => .none
  | some d => d
def kS (b : Bool) : DV.D := if b = true then .str "pass" else .str "touch"
def dStep (h l : Int) (P cp : DV.D) (fo : List DV.D) (side : Int) (bg : Option DV.D) : List DV.D × Int × Option DV.D :=
  let bg1 := if h = 0 then some (bg.getD P) else bg
  let fo1 := if h = 0 ∧ l ≠ 0 then fo ++ [.tuple [bD bg1, kS (decide (side = -l))]] else fo
  let bg2 := if h = 0 ∧ l ≠ 0 then none else bg1
  (if h * l < 0 then fo1 ++ [.tuple [cp, .str "pass"]] else fo1, if l ≠ 0 then l else if h ≠ 0 then h else side, bg2)
def Sgn (h : Int) : Prop := h = -1 ∨ h = 0 ∨ h = 1
theorem sg_sgn (i : Int) : Sgn (sg i) := by
  unfold sg Sgn
  split
  · exact .inr (.inr rfl)
  · split
    · exact .inl rfl
    · exact .inr (.inl rfl)
theorem ml_m1_m1 : mulD (.int (-1)) (.int (-1)) = .ok (.int (1)) := mulD_sm (k := 1) (l := 1) (i := (-1)) (j := (-1)) (by unfold Sm; decide) (by unfold Sm; decide) (by decide)
theorem ml_m1_0 : mulD (.int (-1)) (.int (0)) = .ok (.int (0)) := mulD_sm (k := 1) (l := 1) (i := (-1)) (j := (0)) (by unfold Sm; decide) (by unfold Sm; decide) (by decide)
theorem ml_m1_1 : mulD (.int (-1)) (.int (1)) = .ok (.int (-1)) := mulD_sm (k := 1) (l := 1) (i := (-1)) (j := (1)) (by unfold Sm; decide) (by unfold Sm; decide) (by decide)
theorem ml_0_m1 : mulD (.int (0)) (.int (-1)) = .ok (.int (0)) := mulD_sm (k := 1) (l := 1) (i := (0)) (j := (-1)) (by unfold Sm; decide) (by unfold Sm; decide) (by decide)
theorem ml_0_0 : mulD (.int (0)) (.int (0)) = .ok (.int (0)) := mulD_sm (k := 1) (l := 1) (i := (0)) (j := (0)) (by unfold Sm; decide) (by unfold Sm; decide) (by decide)
theorem ml_0_1 : mulD (.int (0)) (.int (1)) = .ok (.int (0)) := mulD_sm (k := 1) (l := 1) (i := (0)) (j := (1)) (by unfold Sm; decide) (by unfold Sm; decide) (by decide)
theorem ml_1_m1 : mulD (.int (1)) (.int (-1)) = .ok (.int (-1)) := mulD_sm (k := 1) (l := 1) (i := (1)) (j := (-1)) (by unfold Sm; decide) (by unfold Sm; decide) (by decide)
theorem ml_1_0 : mulD (.int (1)) (.int (0)) = .ok (.int (0)) := mulD_sm (k := 1) (l := 1) (i := (1)) (j := (0)) (by unfold Sm; decide) (by unfold Sm; decide) (by decide)
theorem ml_1_1 : mulD (.int (1)) (.int (1)) = .ok (.int (1)) := mulD_sm (k := 1) (l := 1) (i := (1)) (j := (1)) (by unfold Sm; decide) (by unfold Sm; decide) (by decide)
def metSt (P F R M L G : DV.D) (fo : List DV.D) (side : Int) (bg : Option DV.D) (s9 s10 s11 s12 s14 : Slot) : En := ⟨[.val P, .val F, .val R, .val M, .val L, .val G, .val (.list fo), .val (.int side), .val (bD bg), s9, s10, s11, s12, .no, s14, .no, .no], []⟩
theorem met_turn (P F R M L G tM G1 G2 t2 L0 PT ct cp bt rw : DV.D) (i len : Nat) (h l side : Int) (fo : List DV.D) (bg : Option DV.D) (s11 s12 s14 : Slot) (n11 : nb s11 = true) (n12 : nb s12 = true) (n14 : nb s14 = true)
    (hh : Sgn h) (hl : Sgn l) (hs : Sgn side) (lf : fo.length < 1000) (ix1 : ixD G (.int i) = .ok G1) (sg1 : F_sign_of.run [G1] = .ok (.int h)) (ln : lenD [M] = .ok (.int len)) (ixL : ixD L (.int 0) = .ok L0) (ixP : ixD L0 (.int i) = .ok PT) (hPT : ∃ x, PT = .tuple x) (hbg : ∀ d, bg = some d → ∃ x, d = .tuple x)
    (nx : (¬ (i + 1 < len) ∧ l = h) ∨ ((i + 1 < len) ∧ ixD G (.int ((i : Int) + 1)) = .ok G2 ∧ F_sign_of.run [G2] = .ok (.int l) ∧ ixD M (.int ((i : Int) + 1)) = .ok t2 ∧ (h * l < 0 → F_crossed.run [.tuple [G1, G2], tM, t2] = .ok ct ∧ ixD P (.int 0) = .ok bt ∧ ixD R (.int 0) = .ok rw ∧ F_place_then.run [bt, rw, ct, F] = .ok cp))) :
    ∃ s14', nb s14' = true ∧ evS B_met_1 (metSt P F R M L G fo side bg (.val (.int i)) (.val tM) s11 s12 s14) = .next (metSt P F R M L G (dStep h l PT cp fo side bg).1 (dStep h l PT cp fo side bg).2.1 (dStep h l PT cp fo side bg).2.2 (.val (.int i)) (.val tM) (.val (.int h)) (.val (.int l)) s14') := by
  obtain ⟨xp, rfl⟩ := hPT
  have ad := fun z => addL fo [z] (by simp; omega)
  rcases nx with ⟨q, rfl⟩ | ⟨q, e2, e3, e4, e5⟩
  · have q2 : ¬ ((i : Int) + 1 < (len : Int)) := by omega
    refine ⟨s14, n14, ?_⟩
    cases bg with
    | none =>
      rcases hh with rfl | rfl | rfl <;> rcases hs with rfl | rfl | rfl <;> simp [B_met_1, metSt, ix1, sg1, ln, q2, free_nb n11, free_nb n12, bD, isN, dStep, kS, ixL, ixP, ml_m1_m1, ml_m1_0, ml_m1_1, ml_0_m1, ml_0_0, ml_0_1, ml_1_m1, ml_1_0, ml_1_1, ad]
    | some d =>
      obtain ⟨y, rfl⟩ := hbg d rfl
      rcases hh with rfl | rfl | rfl <;> rcases hs with rfl | rfl | rfl <;> simp [B_met_1, metSt, ix1, sg1, ln, q2, free_nb n11, free_nb n12, bD, isN, dStep, kS, ixL, ixP, ml_m1_m1, ml_m1_0, ml_m1_1, ml_0_m1, ml_0_0, ml_0_1, ml_1_m1, ml_1_0, ml_1_1, ad]
  · have q2 : ((i : Int) + 1 < (len : Int)) := by omega
    by_cases c : h * l < 0
    · obtain ⟨c1, c2, c3, c4⟩ := e5 c
      refine ⟨.val ct, rfl, ?_⟩
      have ad2 := fun y z => addL (fo ++ [y]) [z] (by simp; omega)
      cases bg with
      | none =>
        rcases hh with rfl | rfl | rfl <;> rcases hl with rfl | rfl | rfl <;> first | (exact absurd c (by decide)) | (rcases hs with rfl | rfl | rfl <;> simp [B_met_1, metSt, ix1, sg1, ln, q2, e2, e3, e4, c1, c2, c3, c4, free_nb n11, free_nb n12, free_nb n14, bD, isN, dStep, kS, ixL, ixP, ml_m1_m1, ml_m1_0, ml_m1_1, ml_0_m1, ml_0_0, ml_0_1, ml_1_m1, ml_1_0, ml_1_1, ad])
      | some d =>
        obtain ⟨y, rfl⟩ := hbg d rfl
        rcases hh with rfl | rfl | rfl <;> rcases hl with rfl | rfl | rfl <;> first | (exact absurd c (by decide)) | (rcases hs with rfl | rfl | rfl <;> simp [B_met_1, metSt, ix1, sg1, ln, q2, e2, e3, e4, c1, c2, c3, c4, free_nb n11, free_nb n12, free_nb n14, bD, isN, dStep, kS, ixL, ixP, ml_m1_m1, ml_m1_0, ml_m1_1, ml_0_m1, ml_0_0, ml_0_1, ml_1_m1, ml_1_0, ml_1_1, ad])
    · refine ⟨s14, n14, ?_⟩
      cases bg with
      | none =>
        rcases hh with rfl | rfl | rfl <;> rcases hl with rfl | rfl | rfl <;> first | (exact absurd (by decide) c) | (rcases hs with rfl | rfl | rfl <;> simp [B_met_1, metSt, ix1, sg1, ln, q2, e2, e3, free_nb n11, free_nb n12, bD, isN, dStep, kS, ixL, ixP, ml_m1_m1, ml_m1_0, ml_m1_1, ml_0_m1, ml_0_0, ml_0_1, ml_1_m1, ml_1_0, ml_1_1, ad])
      | some d =>
        obtain ⟨y, rfl⟩ := hbg d rfl
        rcases hh with rfl | rfl | rfl <;> rcases hl with rfl | rfl | rfl <;> first | (exact absurd (by decide) c) | (rcases hs with rfl | rfl | rfl <;> simp [B_met_1, metSt, ix1, sg1, ln, q2, e2, e3, free_nb n11, free_nb n12, bD, isN, dStep, kS, ixL, ixP, ml_m1_m1, ml_m1_0, ml_m1_1, ml_0_m1, ml_0_0, ml_0_1, ml_1_m1, ml_1_0, ml_1_1, ad])
end K02
set_option maxHeartbeats 4000000
set_option maxRecDepth 10000
namespace K02
open PySem PySem.Spec PyProof.Rows L2 DV DV.Pl
/-! the program's meetings -/
section
variable {p : Pn} {a b : Int}
def gpD (p : Pn) (a b : Int) (xs ys : List Int) (T : Int) : DV.D := fr (gp p a b xs ys T) (Wh p a b)
theorem met_gaps (h : Fl p a b) {xs ys : List Int} (k : Two p a b xs ys) (hl : (Mk xs ys).length ≤ 1000) (F R M : DV.D) :
    compL (asg (.cons (.name 15) (.cons (.name 16) .nil))) (ev .no).c (ev (.call "minus" F_minus.run (.cons (.var 15) (.cons (.var 16) .nil)))).v [15, 16] ((Mk xs ys).map fun T => .tuple [plD p a b xs ys false T, plD p a b xs ys true T]) ⟨[.val p.d, .val F, .val R, .val M, .val (.list [.list ((Mk xs ys).map (plD p a b xs ys false)), .list ((Mk xs ys).map (plD p a b xs ys true))]), .no, .no, .no, .no, .no, .no, .no, .no, .no, .no, .no, .no], []⟩ []
      = .ok ((Mk xs ys).map (gpD p a b xs ys), ⟨[.val p.d, .val F, .val R, .val M, .val (.list [.list ((Mk xs ys).map (plD p a b xs ys false)), .list ((Mk xs ys).map (plD p a b xs ys true))]), .no, .no, .no, .no, .no, .no, .no, .no, .no, .no, .no, .no], []⟩) := by
  have := comp_name2 (i := 15) (j := 16) (f := .call "minus" F_minus.run (.cons (.var 15) (.cons (.var 16) .nil))) (e := ⟨[.val p.d, .val F, .val R, .val M, .val (.list [.list ((Mk xs ys).map (plD p a b xs ys false)), .list ((Mk xs ys).map (plD p a b xs ys true))]), .no, .no, .no, .no, .no, .no, .no, .no, .no, .no, .no, .no], []⟩) (plD p a b xs ys false) (plD p a b xs ys true) (gpD p a b xs ys) (Mk xs ys) (by decide) rfl rfl (by omega) (fun T hT => by
    have r := r_gap h k (mk_sm h k hT).1
    change F_minus.run _ = Out.ok (gpD p a b xs ys T) at r
    simp [r]) [] (by simp; omega)
  rw [List.nil_append] at this
  exact this
theorem gp_sm (h : Fl p a b) {xs ys : List Int} (k : Two p a b xs ys) {T : Int} (sT : Sm 150 T) : Sm 210 (gp p a b xs ys T) := by
  have s1 : Sm 1 1 := by unfold Sm; decide
  exact ((Pos_sm h k false (K := 200) sT s1 (by decide) (by decide) (by decide)).sub (Pos_sm h k true (K := 200) sT s1 (by decide) (by decide) (by decide))).mono (by decide)
theorem sg_opp {x y : Int} (h : sg x * sg y < 0) : (0 < x ∧ y < 0) ∨ (x < 0 ∧ 0 < y) := by
  unfold sg at h
  split at h <;> rename_i h1
  · split at h <;> rename_i h2
    · cases h
    · split at h
      · exact .inl ⟨h1, by omega⟩
      · cases h
  · split at h <;> rename_i h2
    · split at h <;> rename_i h3
      · exact .inr ⟨h2, h3⟩
      · split at h <;> cases h
    · simp at h
theorem cr_sm {T T2 g1 g2 : Int} (sT : Sm 150 T) (sT2 : Sm 150 T2) (s1 : Sm 210 g1) (s2 : Sm 210 g2) : Sm 400 (crM T T2 g1 g2) ∧ Sm 400 (crQ g1 g2) := by
  have n1 : Sm 210 (g1.natAbs : Int) := by unfold Sm at *; omega
  have n2 : Sm 210 (g2.natAbs : Int) := by unfold Sm at *; omega
  have q : Sm 211 ((g1.natAbs : Int) + g2.natAbs) := n1.add n2
  refine ⟨?_, q.mono (by decide)⟩
  exact (((sT.mul q).mono (by decide : 150 + 211 ≤ 398)).add ((n1.mul (sT2.sub sT)).mono (by decide : 210 + (150 + 1) ≤ 398))).mono (by decide)
/-- where the boats cross between T and T2 -/
def crD (p : Pn) (a b : Int) (xs ys : List Int) (T T2 : Int) : DV.D := fr (Pos p a b xs ys false (crM T T2 (gp p a b xs ys T) (gp p a b xs ys T2)) (crQ (gp p a b xs ys T) (gp p a b xs ys T2))) (Wh p a b * crQ (gp p a b xs ys T) (gp p a b xs ys T2))
abbrev PSt := List DV.D × Int × Option DV.D
def nxS (p : Pn) (a b : Int) (xs ys : List Int) (T : Int) : List Int → PSt → PSt
  | [], s => dStep (sg (gp p a b xs ys T)) (sg (gp p a b xs ys T)) (plD p a b xs ys false T) .none s.1 s.2.1 s.2.2
  | T2 :: _, s => dStep (sg (gp p a b xs ys T)) (sg (gp p a b xs ys T2)) (plD p a b xs ys false T) (crD p a b xs ys T T2) s.1 s.2.1 s.2.2
def dRun (p : Pn) (a b : Int) (xs ys : List Int) : List Int → PSt → PSt
  | [], s => s
  | T :: r, s => dRun p a b xs ys r (nxS p a b xs ys T r s)
structure StOk (s : PSt) (n : Nat) : Prop where
  len : s.1.length + 2 * n < 1000
  sd : Sgn s.2.1
  bg : ∀ d, s.2.2 = some d → ∃ x, d = .tuple x
theorem dStep_ok {s : PSt} {n : Nat} {h l : Int} {P cp : DV.D} (k : StOk s (n + 1)) (hh : Sgn h) (hl : Sgn l) (hP : ∃ x, P = .tuple x) : StOk (dStep h l P cp s.1 s.2.1 s.2.2) n := by
  have k1 := k.len
  refine ⟨?_, ?_, fun d hd => ?_⟩
  · unfold dStep; dsimp only; split <;> split <;> (try simp only [List.length_append, List.length_singleton]) <;> omega
  · unfold dStep; dsimp only
    split
    · exact hl
    · split
      · exact hh
      · exact k.sd
  · unfold dStep at hd
    dsimp only at hd
    split at hd
    · cases hd
    · split at hd
      · cases hd
        cases e : s.2.2 with
        | none => exact hP
        | some z => exact k.bg z e
      · exact k.bg d hd
theorem met_loop (h : Fl p a b) {xs ys : List Int} (k : Two p a b xs ys) : ∀ (suf pre : List Int), Mk xs ys = pre ++ suf → ∀ (s : PSt), StOk s suf.length → ∀ s9 s10 s11 s12 s14, nb s9 = true → nb s10 = true → nb s11 = true → nb s12 = true → nb s14 = true →
    ∃ t9 t10 t11 t12 t14, StOk (dRun p a b xs ys suf s) 0 ∧ eachS (asg (.cons (.name 9) (.cons (.name 10) .nil))) (evS B_met_1) (enumL pre.length (suf.map (tm (Wh p a b) b))) (metSt p.d (.tuple [.int a, .int b]) (.list [rw' p a b xs, rw' p a b ys]) (.list ((Mk xs ys).map (tm (Wh p a b) b))) (.list [.list ((Mk xs ys).map (plD p a b xs ys false)), .list ((Mk xs ys).map (plD p a b xs ys true))]) (.list ((Mk xs ys).map (gpD p a b xs ys))) s.1 s.2.1 s.2.2 s9 s10 s11 s12 s14)
      = .next (metSt p.d (.tuple [.int a, .int b]) (.list [rw' p a b xs, rw' p a b ys]) (.list ((Mk xs ys).map (tm (Wh p a b) b))) (.list [.list ((Mk xs ys).map (plD p a b xs ys false)), .list ((Mk xs ys).map (plD p a b xs ys true))]) (.list ((Mk xs ys).map (gpD p a b xs ys))) (dRun p a b xs ys suf s).1 (dRun p a b xs ys suf s).2.1 (dRun p a b xs ys suf s).2.2 t9 t10 t11 t12 t14)
  | [], pre, e, s, ks, s9, s10, s11, s12, s14, n9, n10, n11, n12, n14 => ⟨s9, s10, s11, s12, s14, ks, rfl⟩
  | T :: suf, pre, e, s, ks, s9, s10, s11, s12, s14, n9, n10, n11, n12, n14 => by
    have hT : T ∈ Mk xs ys := by rw [e]; simp
    have sT := (mk_sm h k hT).1
    have eT : (Mk xs ys)[pre.length]? = some T := by rw [e]; simp
    have W0 := h.bo.1.W0
    have tup : ∃ x, plD p a b xs ys false T = .tuple x := ⟨_, rfl⟩
    have ks' : StOk (nxS p a b xs ys T suf s) suf.length := by
      cases suf with
      | nil => exact dStep_ok ks (sg_sgn _) (sg_sgn _) tup
      | cons T2 r => exact dStep_ok ks (sg_sgn _) (sg_sgn _) tup
    have l1 := ks.len
    have turn : ∃ s14', nb s14' = true ∧ ∃ l, evS B_met_1 (metSt p.d (.tuple [.int a, .int b]) (.list [rw' p a b xs, rw' p a b ys]) (.list ((Mk xs ys).map (tm (Wh p a b) b))) (.list [.list ((Mk xs ys).map (plD p a b xs ys false)), .list ((Mk xs ys).map (plD p a b xs ys true))]) (.list ((Mk xs ys).map (gpD p a b xs ys))) s.1 s.2.1 s.2.2 (.val (.int pre.length)) (.val (tm (Wh p a b) b T)) s11 s12 s14)
      = .next (metSt p.d (.tuple [.int a, .int b]) (.list [rw' p a b xs, rw' p a b ys]) (.list ((Mk xs ys).map (tm (Wh p a b) b))) (.list [.list ((Mk xs ys).map (plD p a b xs ys false)), .list ((Mk xs ys).map (plD p a b xs ys true))]) (.list ((Mk xs ys).map (gpD p a b xs ys))) (nxS p a b xs ys T suf s).1 (nxS p a b xs ys T suf s).2.1 (nxS p a b xs ys T suf s).2.2 (.val (.int pre.length)) (.val (tm (Wh p a b) b T)) (.val (.int (sg (gp p a b xs ys T)))) (.val (.int l)) s14') := by
      have ix1 : ixD (.list ((Mk xs ys).map (gpD p a b xs ys))) (.int pre.length) = .ok (gpD p a b xs ys T) := ix_lst (by omega) (by rw [List.getElem?_map, Int.toNat_natCast, eT]; rfl)
      have ixP : ixD (.list ((Mk xs ys).map (plD p a b xs ys false))) (.int pre.length) = .ok (plD p a b xs ys false T) := ix_lst (by omega) (by rw [List.getElem?_map, Int.toNat_natCast, eT]; rfl)
      have ln : lenD [.list ((Mk xs ys).map (tm (Wh p a b) b))] = .ok (.int ((Mk xs ys).length : Nat)) := by simp
      cases suf with
      | nil =>
        have hlen : (Mk xs ys).length = pre.length + 1 := by rw [e]; simp
        obtain ⟨s14', n, ev⟩ := met_turn p.d (.tuple [.int a, .int b]) (.list [rw' p a b xs, rw' p a b ys]) (.list ((Mk xs ys).map (tm (Wh p a b) b))) (.list [.list ((Mk xs ys).map (plD p a b xs ys false)), .list ((Mk xs ys).map (plD p a b xs ys true))]) (.list ((Mk xs ys).map (gpD p a b xs ys))) (tm (Wh p a b) b T) _ .none .none _ (plD p a b xs ys false T) .none .none .none .none pre.length (Mk xs ys).length _ _ s.2.1 s.1 s.2.2 s11 s12 s14 n11 n12 n14 (sg_sgn _) (sg_sgn _) ks.sd (by simp at l1; omega) ix1 (r_sign_of W0) ln (by simp) ixP tup ks.bg (.inl ⟨by omega, rfl⟩)
        exact ⟨s14', n, _, ev⟩
      | cons T2 r =>
        have hlen : pre.length + 1 < (Mk xs ys).length := by rw [e]; simp
        have hT2 : T2 ∈ Mk xs ys := by rw [e]; simp
        have sT2 := (mk_sm h k hT2).1
        have eT2 : (Mk xs ys)[pre.length + 1]? = some T2 := by rw [e]; simp
        have ix2 : ixD (.list ((Mk xs ys).map (gpD p a b xs ys))) (.int ((pre.length : Int) + 1)) = .ok (gpD p a b xs ys T2) := ix_lst (by omega) (by rw [List.getElem?_map, show ((pre.length : Int) + 1).toNat = pre.length + 1 by omega, eT2]; rfl)
        have ixM : ixD (.list ((Mk xs ys).map (tm (Wh p a b) b))) (.int ((pre.length : Int) + 1)) = .ok (tm (Wh p a b) b T2) := ix_lst (by omega) (by rw [List.getElem?_map, show ((pre.length : Int) + 1).toNat = pre.length + 1 by omega, eT2]; rfl)
        have g1 := gp_sm h k sT
        have g2 := gp_sm h k sT2
        have cs := cr_sm sT sT2 g1 g2
        obtain ⟨s14', n, ev⟩ := met_turn p.d (.tuple [.int a, .int b]) (.list [rw' p a b xs, rw' p a b ys]) (.list ((Mk xs ys).map (tm (Wh p a b) b))) (.list [.list ((Mk xs ys).map (plD p a b xs ys false)), .list ((Mk xs ys).map (plD p a b xs ys true))]) (.list ((Mk xs ys).map (gpD p a b xs ys))) (tm (Wh p a b) b T) _ _ (tm (Wh p a b) b T2) _ (plD p a b xs ys false T) (fr (crM T T2 (gp p a b xs ys T) (gp p a b xs ys T2) * b) (crQ (gp p a b xs ys T) (gp p a b xs ys T2) * Wh p a b)) (crD p a b xs ys T T2) p.a.d (rw' p a b xs) pre.length (Mk xs ys).length _ _ s.2.1 s.1 s.2.2 s11 s12 s14 n11 n12 n14 (sg_sgn _) (sg_sgn _) ks.sd (by simp at l1; omega) ix1 (r_sign_of W0) ln (by simp) ixP tup ks.bg (.inr ⟨hlen, ix2, r_sign_of W0, ixM, fun c => ⟨r_crossed W0 h.bo.1.sW h.sb sT sT2 g1 g2 (sg_opp c), by simp [Pn.d], by simp, r_then h k false _ _ (by have := sg_opp c; unfold crQ; omega) cs.1 cs.2⟩⟩)
        exact ⟨s14', n, _, ev⟩
    obtain ⟨s14', n14', l, ev⟩ := turn
    obtain ⟨t9, t10, t11, t12, t14, ok', ih⟩ := met_loop h k suf (pre ++ [T]) (by rw [e]; simp) (nxS p a b xs ys T suf s) ks' (.val (.int pre.length)) (.val (tm (Wh p a b) b T)) (.val (.int (sg (gp p a b xs ys T)))) (.val (.int l)) s14' rfl rfl rfl rfl n14'
    refine ⟨t9, t10, t11, t12, t14, ok', ?_⟩
    rw [List.map_cons]
    unfold enumL
    rw [each_cons]
    simp only [List.length_append, List.length_singleton] at ih
    simp only [metSt] at ev ih ⊢
    simp [free_nb n9, free_nb n10, ev]
    exact ih
end
end K02
set_option maxHeartbeats 4000000
set_option maxRecDepth 10000
namespace K02
open PySem PySem.Spec PyProof.Rows L2 DV DV.Pl
section
variable {p : Pn} {a b : Int}
def metOut (s : PSt) : List DV.D := s.1 ++ (match s.2.2 with
  | some d => [.tuple [d, .str "touch"]]
  | none => [])
theorem zip_map {t : Type} (f g : t → DV.D) : ∀ l : List t, zipL (l.map f) (l.map g) = l.map fun x => .tuple [f x, g x]
  | [] => rfl
  | x :: l => by simp [zipL, zip_map f g l]
theorem r_met (h : Fl p a b) {xs ys : List Int} (k : Two p a b xs ys) (cl : F_clocks.run [p.d, .tuple [.int a, .int b]] = .ok (.list [rw' p a b xs, rw' p a b ys])) :
    F_met.run [p.d, .tuple [.int a, .int b]] = .ok (.list (metOut (dRun p a b xs ys (Mk xs ys) ([], 0, none)))) := by
  have l := k.lens h
  have hl : (Mk xs ys).length ≤ 10 := by
    have := srt_len ltI (xs ++ ys)
    unfold Mk; simp only [List.length_append] at this; omega
  have inner : ∀ w : Bool, compL (asg (.name 10)) (ev .no).c (ev (.call "place_then" F_place_then.run (.cons (.ix (.var 0) (.var 13)) (.cons (.ix (.var 2) (.var 13)) (.cons (.var 10) (.cons (.var 1) .nil)))))).v [10] ((Mk xs ys).map (tm (Wh p a b) b)) (metE p a b xs ys .no (.val (.int (wI w)))) [] = .ok ((Mk xs ys).map (plD p a b xs ys w), metE p a b xs ys .no (.val (.int (wI w)))) := fun w => by
    refine comp_t (tm (Wh p a b) b) (plD p a b xs ys w) (Mk xs ys) rfl (by omega) fun T hT => ?_
    have r := r_then1 h k w (mk_sm h k hT).1
    cases w with
    | false =>
      simp only [Bool.false_eq_true, if_false] at r
      simp [metE, wI, Pn.d] 
      simp [r]
    | true =>
      simp only [if_true] at r
      simp [metE, wI, Pn.d]
      simp [r]
  have outer := comp_t (i := 13) (e := metE p a b xs ys .no .no) (f := .comp (.call "place_then" F_place_then.run (.cons (.ix (.var 0) (.var 13)) (.cons (.ix (.var 2) (.var 13)) (.cons (.var 10) (.cons (.var 1) .nil))))) (.name 10) (.var 3) .no [10]) (fun w : Bool => PyData.int (wI w)) (fun w => PyData.list ((Mk xs ys).map (plD p a b xs ys w))) [false, true] rfl (by decide) (fun w _ => by
    have i := inner w
    simp [metE] at i ⊢
    simp [i])
  have gaps := met_gaps h k (by omega) (.tuple [.int a, .int b]) (.list [rw' p a b xs, rw' p a b ys]) (.list ((Mk xs ys).map (tm (Wh p a b) b)))
  have mk := r_marks_of h k
  have zp : zipD (.list ((Mk xs ys).map (plD p a b xs ys false))) (.list ((Mk xs ys).map (plD p a b xs ys true))) = .ok ((Mk xs ys).map fun T => .tuple [plD p a b xs ys false T, plD p a b xs ys true T]) := by
    show Out.ok (zipL _ _) = _; rw [zip_map]
  have en : enumD (.list ((Mk xs ys).map (tm (Wh p a b) b))) = .ok (enumL 0 ((Mk xs ys).map (tm (Wh p a b) b))) := rfl
  obtain ⟨t9, t10, t11, t12, t14, ok, lp⟩ := met_loop h k (Mk xs ys) [] rfl ([], 0, none) ⟨by simp; omega, .inr (.inl rfl), fun d hd => by cases hd⟩ .no .no .no .no .no rfl rfl rfl rfl rfl
  generalize dRun p a b xs ys (Mk xs ys) ([], 0, none) = st at *
  obtain ⟨fo, side, bg⟩ := st
  have okl := ok.len
  have okb := ok.bg
  dsimp only at okl okb
  simp only [metSt, bD, List.length_nil, show ((0 : Nat) : Int) = 0 from rfl] at lp
  simp [metE, wI] at outer
  have a1 := fun z => addL fo [z] (by simp; omega)
  have a0 := addL fo [] (by simp; omega)
  cases bg with
  | none =>
    simp [F_met, cl, mk, outer, zp, gaps, en, lp, isN, metOut, a0]
  | some d =>
    obtain ⟨x, rfl⟩ := okb d rfl
    simp [F_met, cl, mk, outer, zp, gaps, en, lp, isN, metOut, a1]
end
end K02
set_option maxHeartbeats 4000000
set_option maxRecDepth 10000
namespace K02
open PySem PySem.Spec PyProof.Rows L2 DV DV.Pl
/-! the law's gaps -/
section
variable {p : Pn} {a b : Int}
def rwI (xs ys : List Int) : DV.D := .list [.list (isD xs), .list (isD ys)]
theorem gaps_loop1 (h : Fl p a b) {xs ys : List Int} (k : Two p a b xs ys) (M : DV.D) (s7 : List DV.D) : ∀ (suf : List Int) (ds : List Int), (∀ T ∈ suf, T ∈ Mk xs ys) → ds.length + suf.length < 1000 → ∀ s4 s8, nb s4 = true → nb s8 = true →
    ∃ t4 t8, nb t8 = true ∧ eachS (asg (.name 4)) (evS B_law_gaps_1) (suf.map PyData.int) ⟨[.val p.d, .val (.tuple [.int a, .int b]), .val (rwI xs ys), .own (isD ds), s4, .no, .val M, .own s7, s8, .no, .no], []⟩
      = .next ⟨[.val p.d, .val (.tuple [.int a, .int b]), .val (rwI xs ys), .own (isD (ds ++ suf.map (gp p a b xs ys))), t4, .no, .val M, .own s7, t8, .no, .no], []⟩
  | [], ds, hm, hl, s4, s8, n4, n8 => ⟨s4, s8, n8, by simp⟩
  | T :: suf, ds, hm, hl, s4, s8, n4, n8 => by
    have sT := (mk_sm h k (hm T List.mem_cons_self)).1
    simp only [List.length_cons] at hl
    have t0 := r_there h k false T (sT.mono (by decide))
    have t1 := r_there h k true T (sT.mono (by decide))
    simp only [Bool.false_eq_true, if_false] at t0
    simp only [if_true] at t1
    change F_law_there.run [p.d, _, rwI xs ys, _, _] = _ at t0
    change F_law_there.run [p.d, _, rwI xs ys, _, _] = _ at t1
    obtain ⟨t4, t8, m8, ih⟩ := gaps_loop1 h k M s7 suf (ds ++ [gp p a b xs ys T]) (fun U hU => hm U (List.mem_cons_of_mem _ hU)) (by simp; omega) (.val (.int T)) (.val (.int (Pos p a b xs ys false T 1))) rfl rfl
    refine ⟨t4, t8, m8, ?_⟩
    have ld : (isD ds).length < 16777216 := by unfold isD; rw [List.length_map]; omega
    have st : isD (ds ++ [gp p a b xs ys T]) = isD ds ++ [.int (Pos p a b xs ys false T 1 - Pos p a b xs ys true T 1)] := by simp [isD, gp]
    rw [st] at ih
    rw [List.map_cons, each_cons]
    simp only [List.append_assoc, List.singleton_append] at ih
    simp [free_nb n4, B_law_gaps_1, t0, t1, free_nb n8, ld]
    exact ih
/-- what the law's gaps are -/
def gapE (p : Pn) (a b : Int) (xs ys : List Int) : List Int → List DV.D
  | [] => []
  | [T] => [.tuple [.int T, .none, .int (gp p a b xs ys T), .int (gp p a b xs ys T)]]
  | T :: T2 :: r => .tuple [.int T, .int T2, .int (gp p a b xs ys T), .int (gp p a b xs ys T2)] :: gapE p a b xs ys (T2 :: r)
theorem gaps_loop2 {xs ys : List Int} (P F R s4 s8 : Slot) : ∀ (suf pre : List Int), Mk xs ys = pre ++ suf → ∀ (fo : List DV.D), fo.length + suf.length < 1000 → ∀ s5 s9 s10, nb s5 = true → nb s9 = true → nb s10 = true →
    ∃ t5 t9 t10, eachS (asg (.name 5)) (evS B_law_gaps_2) (rngL pre.length suf.length) ⟨[P, F, R, .val (.list (isD ((Mk xs ys).map (gp p a b xs ys)))), s4, s5, .val (.list (isD (Mk xs ys))), .own fo, s8, s9, s10], []⟩
      = .next ⟨[P, F, R, .val (.list (isD ((Mk xs ys).map (gp p a b xs ys)))), s4, t5, .val (.list (isD (Mk xs ys))), .own (fo ++ gapE p a b xs ys suf), s8, t9, t10], []⟩
  | [], pre, e, fo, hl, s5, s9, s10, n5, n9, n10 => ⟨s5, s9, s10, by simp [rngL, gapE]⟩
  | [T], pre, e, fo, hl, s5, s9, s10, n5, n9, n10 => by
    have eT : (Mk xs ys)[pre.length]? = some T := by rw [e]; simp
    have hlen : (isD (Mk xs ys)).length = pre.length + 1 := by unfold isD; rw [List.length_map, e]; simp
    have ixM : ixD (.list (isD (Mk xs ys))) (.int pre.length) = .ok (.int T) := ix_lst (by omega) (by unfold isD; rw [List.getElem?_map, Int.toNat_natCast, eT]; rfl)
    have ixG : ixD (.list (isD ((Mk xs ys).map (gp p a b xs ys)))) (.int pre.length) = .ok (.int (gp p a b xs ys T)) := ix_lst (by omega) (by unfold isD; rw [List.getElem?_map, List.getElem?_map, Int.toNat_natCast, eT]; rfl)
    have lf : fo.length < 16777216 := by omega
    refine ⟨.val (.int pre.length), .val (.bool true), .val .none, ?_⟩
    simp [rngL, each_cons, free_nb n5, B_law_gaps_2, hlen, free_nb n9, free_nb n10, ixM, ixG, lf, gapE]
  | T :: T2 :: r, pre, e, fo, hl, s5, s9, s10, n5, n9, n10 => by
    have eT : (Mk xs ys)[pre.length]? = some T := by rw [e]; simp
    have eT2 : (Mk xs ys)[pre.length + 1]? = some T2 := by rw [e]; simp
    have hlen : (isD (Mk xs ys)).length = pre.length + 1 + (1 + r.length) := by unfold isD; rw [List.length_map, e]; simp; omega
    simp only [List.length_cons] at hl
    have ixM : ixD (.list (isD (Mk xs ys))) (.int pre.length) = .ok (.int T) := ix_lst (by omega) (by unfold isD; rw [List.getElem?_map, Int.toNat_natCast, eT]; rfl)
    have ixM2 : ixD (.list (isD (Mk xs ys))) (.int ((pre.length : Int) + 1)) = .ok (.int T2) := ix_lst (by omega) (by unfold isD; rw [List.getElem?_map, show ((pre.length : Int) + 1).toNat = pre.length + 1 by omega, eT2]; rfl)
    have ixG : ixD (.list (isD ((Mk xs ys).map (gp p a b xs ys)))) (.int pre.length) = .ok (.int (gp p a b xs ys T)) := ix_lst (by omega) (by unfold isD; rw [List.getElem?_map, List.getElem?_map, Int.toNat_natCast, eT]; rfl)
    have ixG2 : ixD (.list (isD ((Mk xs ys).map (gp p a b xs ys)))) (.int ((pre.length : Int) + 1)) = .ok (.int (gp p a b xs ys T2)) := ix_lst (by omega) (by unfold isD; rw [List.getElem?_map, List.getElem?_map, show ((pre.length : Int) + 1).toNat = pre.length + 1 by omega, eT2]; rfl)
    have lf : fo.length < 16777216 := by omega
    have ne : ¬ ((pre.length : Int) + 1 = ((isD (Mk xs ys)).length : Int)) := by omega
    obtain ⟨t5, t9, t10, ih⟩ := gaps_loop2 P F R s4 s8 (T2 :: r) (pre ++ [T]) (by rw [e]; simp) (fo ++ [.tuple [.int T, .int T2, .int (gp p a b xs ys T), .int (gp p a b xs ys T2)]]) (by simp; omega) (.val (.int pre.length)) (.val (.bool false)) (.val (.int T2)) rfl rfl rfl
    refine ⟨t5, t9, t10, ?_⟩
    rw [List.length_cons]
    unfold rngL
    rw [each_cons]
    simp only [List.length_append, List.length_singleton] at ih
    simp only [List.append_assoc, List.singleton_append, List.length_cons] at ih
    simp [free_nb n5, B_law_gaps_2, ne, free_nb n9, free_nb n10, ixM, ixM2, ixG, ixG2, lf, gapE]
    exact ih
end
end K02
set_option maxHeartbeats 4000000
set_option maxRecDepth 10000
namespace K02
open PySem PySem.Spec PyProof.Rows L2 DV DV.Pl
section
variable {p : Pn} {a b : Int}
theorem r_law_gaps (h : Fl p a b) {xs ys : List Int} (k : Two p a b xs ys) (cl : F_law_clock.run [p.d, .tuple [.int a, .int b]] = .ok (.list [.list (isD xs), .list (isD ys)])) :
    F_law_gaps.run [p.d, .tuple [.int a, .int b]] = .ok (.list (gapE p a b xs ys (Mk xs ys))) := by
  have l := k.lens h
  have hl : (Mk xs ys).length ≤ 10 := by
    have := srt_len ltI (xs ++ ys)
    unfold Mk; simp only [List.length_append] at this; omega
  obtain ⟨t4, t8, m8, l1⟩ := gaps_loop1 h k (.list (isD (Mk xs ys))) [] (Mk xs ys) [] (fun T hT => hT) (by simp; omega) .no .no rfl rfl
  obtain ⟨t5, t9, t10, l2⟩ := gaps_loop2 (xs := xs) (ys := ys) (.val p.d) (.val (.tuple [.int a, .int b])) (.val (rwI xs ys)) t4 t8 (p := p) (a := a) (b := b) (Mk xs ys) [] rfl [] (by simp; omega) .no .no .no rfl rfl rfl
  change F_law_clock.run _ = Out.ok (rwI xs ys) at cl
  have ix0 : ixD (rwI xs ys) (.int 0) = .ok (.list (isD xs)) := by simp [rwI]
  have ix1 : ixD (rwI xs ys) (.int 1) = .ok (.list (isD ys)) := by simp [rwI]
  have ad := addL (isD xs) (isD ys) (by unfold isD; simp; omega)
  have st0 : srtD [.list (isD xs ++ isD ys)] = .ok (.list (isD (Mk xs ys))) := by
    unfold srtD isD
    simp only
    rw [if_pos (by simp; omega), ← List.map_append, intsD_map]
    rfl
  have st : srtF.f [.list (isD xs ++ isD ys)] = .ok (.list (isD (Mk xs ys))) := st0
  have rg := rngD_ok (n := (Mk xs ys).length) (by omega)
  have ln : (isD (Mk xs ys)).length = (Mk xs ys).length := by unfold isD; simp
  simp only [List.nil_append, List.length_nil, show ((0 : Nat) : Int) = 0 from rfl] at l1 l2
  change eachS _ _ (isD (Mk xs ys)) ⟨[_, _, _, .own [], _, _, _, _, _, _, _], _⟩ = _ at l1
  simp [F_law_gaps, cl, ix0, ix1, ad, st, l1, ln, rg, l2]
end
end K02
set_option maxHeartbeats 4000000
set_option maxRecDepth 10000
namespace K02
open PySem PySem.Spec PyProof.Rows L2 DV DV.Pl
section
variable {p : Pn} {a b : Int}
/-- one entry of the law's meetings -/
theorem lmet_turn (h : Fl p a b) {xs ys : List Int} (k : Two p a b xs ys) (fo : List DV.D) (lf : fo.length < 1000) (en : DV.D) (ah be m q : Int) (q0 : 0 < q) (m0 : 0 ≤ m) (sm : Sm 400 m) (sq : Sm 220 q) (slow : Sm 160 (m / q)) (hah : Sgn ah) (hbe : Sgn be) (s8 s9 s10 s11 s12 : Slot) (n8 : nb s8 = true) (n9 : nb s9 = true) (n10 : nb s10 = true) (n11 : nb s11 = true) (n12 : nb s12 = true) :
    ∃ t8 t9 t10 t11 t12, nb t8 = true ∧ nb t9 = true ∧ nb t10 = true ∧ nb t11 = true ∧ nb t12 = true ∧ evS B_law_met_1 ⟨[.val p.d, .val (.tuple [.int a, .int b]), .val (.int (Wh p a b)), .val (rwI xs ys), .own fo, .val en, .val (.int ah), .val (.int be), s8, s9, s10, s11, s12, .val (.int m), .val (.int q)], []⟩
      = .next ⟨[.val p.d, .val (.tuple [.int a, .int b]), .val (.int (Wh p a b)), .val (rwI xs ys), .own (fo ++ [.tuple [fr (Pos p a b xs ys false m q) (Wh p a b * q), kS (decide (ah * be < 0))]]), .val en, .val (.int ah), .val (.int be), t8, t9, t10, t11, t12, .val (.int m), .val (.int q)], []⟩ := by
  have W0 := h.bo.1.W0
  have sW := h.bo.1.sW
  have e0 := Int.mul_ediv_add_emod m q
  have r0 := Int.emod_nonneg m (Int.ne_of_gt q0)
  have r1 := Int.emod_lt_of_pos m q0
  have lin := Pos_lin k false (m / q) (m % q) q r0 r1
  have dv := divD_sm (i := m) (Int.ne_of_gt q0) sq (by decide)
  rw [fdiv_pos q0] at dv
  generalize hL : m / q = low at *
  generalize m % q = r at *
  have em : m = low * q + r := by rw [← e0, Int.mul_comm]
  rw [← em] at lin
  have sl1 : Sm 161 (low + 1) := slow.add (by unfold Sm; decide)
  have t0 := r_there h k false low (slow.mono (by decide))
  have t1 := r_there h k false (low + 1) (sl1.mono (by decide))
  simp only [Bool.false_eq_true, if_false] at t0 t1
  change F_law_there.run [p.d, _, rwI xs ys, _, _] = _ at t0
  change F_law_there.run [p.d, _, rwI xs ys, _, _] = _ at t1
  have s1 : Sm 1 1 := by unfold Sm; decide
  have p0 := Pos_sm h k false (K := 210) slow s1 (by decide) (by decide) (by decide)
  have p1 := Pos_sm h k false (K := 210) sl1 s1 (by decide) (by decide) (by decide)
  have sP := Pos_sm h k false (K := 600) sm sq (by decide) (by decide) (by decide)
  have m1 := mulD_sm p0 sq (by decide)
  have m2 := mulD_sm slow sq (by decide)
  have sr : Sm 220 r := by unfold Sm at *; omega
  have m3 := mulD_sm (p1.sub p0) sr (by decide)
  have m4 := mulD_sm sW sq (by decide)
  have Wq : 0 < Wh p a b * q := Int.mul_pos W0 q0
  have lw := r_law_lowest (k := 800) (a := Pos p a b xs ys false m q) (b := Wh p a b * q) (Int.ne_of_gt Wq) (sP.mono (by decide)) ((sW.mul sq).mono (by decide)) (by decide)
  rw [if_pos Wq] at lw
  generalize Pos p a b xs ys false low 1 = P0 at *
  generalize Pos p a b xs ys false (low + 1) 1 = P1 at *
  generalize Pos p a b xs ys false m q = PP at *
  have er : m - low * q = r := by omega
  have ef : P0 * q + (P1 - P0) * r = PP := by rw [lin, Int.mul_comm]
  have hm : mulD (.int ah) (.int be) = .ok (.int (ah * be)) := mulD_sm (k := 1) (l := 1) (by unfold Sgn at hah; unfold Sm; omega) (by unfold Sgn at hbe; unfold Sm; omega) (by decide)
  refine ⟨.val (.int low), .val (.int P0), .val (.int (P1 - P0)), .val (.int PP), .val (fr PP (Wh p a b * q)), rfl, rfl, rfl, rfl, rfl, ?_⟩
  have lf2 : fo.length < 16777216 := by omega
  by_cases c : ah * be < 0 <;> simp [B_law_met_1, dv, t0, t1, m1, m2, m3, m4, er, ef, lw, hm, c, kS, lf2, free_nb n8, free_nb n9, free_nb n10, free_nb n11, free_nb n12]
end
end K02
set_option maxHeartbeats 4000000
set_option maxRecDepth 10000
namespace K02
open PySem PySem.Spec PyProof.Rows L2 DV DV.Pl
/-! the law's stretches -/
/-- an entry: from S to E, the sign ahead, the sign behind -/
def lE (S E : DV.D) (ah be : Int) : DV.D := .tuple [S, E, .int ah, .int be]
def t1D (T : Int) : DV.D := .tuple [.int T, .int 1]
/-- what is open at T: the start and the sign ahead -/
structure LSt where
  done : List (DV.D × DV.D × Int × Int)
  opn : Option (Int × Int)
  last : Int
def LSt.found (s : LSt) (T : Int) : List DV.D := s.done.map (fun e => lE e.1 e.2.1 e.2.2.1 e.2.2.2) ++ (match s.opn with
  | some (T0, ah) => [lE (t1D T0) (t1D T) ah 0]
  | none => [])
theorem setL_last (l : List DV.D) (x y : DV.D) : setL (l ++ [x]) (.int (-1)) y = .ok (l ++ [y]) := by
  unfold setL L2.ixN
  simp only [List.length_append, List.length_singleton]
  rw [if_neg (by decide), if_pos (by omega)]
  simp only
  rw [show (-1 + ((l.length + 1 : Nat) : Int)).toNat = l.length by omega]
  simp
theorem sh2 (i j : Int) : SeqAt.shaped (.tuple [.int i, .int j]) = true := (nc_tup (n := 0).mpr fun z hz => by
    simp at hz
    rcases hz with rfl | rfl <;> exact nc_int 0 _).shaped (by decide)
theorem ne2 (m q T : Int) : neD (.tuple [.int m, .int q]) (.tuple [.int T, .int 1]) = .ok (.bool (!(m == T && q == 1))) := by
  rw [neD_ok (sh2 _ _) (sh2 _ _)]
  simp
end K02
set_option maxHeartbeats 4000000
set_option maxRecDepth 10000
namespace K02
open PySem PySem.Spec PyProof.Rows L2 DV DV.Pl
def stE (P F : DV.D) (fo : List DV.D) (last : Int) (T : Int) (E : DV.D) (g1 g2 : Int) (s8 : Slot) : En := ⟨[.val P, .val F, .own fo, .val (.int last), .val (.int T), .val E, .val (.int g1), .val (.int g2), s8], []⟩
theorem sg_bools (i : Int) : subD (.bool (decide (0 < i))) (.bool (decide (i < 0))) = .ok (.int (sg i)) := sg_bool i
@[simp] theorem neD_bool (i j : Bool) : neD (.bool i) (.bool j) = .ok (.bool (!(i == j))) := neD_ok (sh_bool i) (sh_bool j)
/-- no crossing, no meeting -/
theorem st_none (P F E : DV.D) (fo : List DV.D) (last T g1 g2 : Int) (s8 : Slot) (h1 : g1 ≠ 0) (h2 : g2 = 0 ∨ (decide (0 < g1) = decide (0 < g2))) :
    evS B_law_stretches_1 (stE P F fo last T E g1 g2 s8) = .next (stE P F fo (if g2 ≠ 0 then sg g2 else sg g1) T E g1 g2 s8) := by
  by_cases c : g2 = 0
  · subst c
    simp [B_law_stretches_1, stE, h1, sg_bool]
  · have e : (0 < g1 ↔ 0 < g2) := by
      rcases h2 with h2 | h2
      · exact absurd h2 c
      · exact decide_eq_decide.mp h2
    by_cases q1 : 0 < g1
    · have q2 : 0 < g2 := e.mp q1
      have n1 : ¬ g1 < 0 := by omega
      have n2 : ¬ g2 < 0 := by omega
      simp [B_law_stretches_1, stE, h1, c, q1, q2, n1, n2, subD, sg]
    · have q2 : ¬ 0 < g2 := fun z => q1 (e.mpr z)
      have n1 : g1 < 0 := by omega
      have n2 : g2 < 0 := by omega
      simp [B_law_stretches_1, stE, h1, c, q1, q2, n1, n2, subD, sg]
end K02
set_option maxHeartbeats 4000000
set_option maxRecDepth 10000
namespace K02
open PySem PySem.Spec PyProof.Rows L2 DV DV.Pl
/-- a crossing -/
theorem st_cross (P F : DV.D) (fo : List DV.D) (lf : fo.length < 1000) (last T T2 g1 g2 : Int) (sT : Sm 150 T) (sT2 : Sm 150 T2) (s1 : Sm 210 g1) (s2 : Sm 210 g2) (s8 : Slot) (n8 : nb s8 = true) (hg : (0 < g1 ∧ g2 < 0) ∨ (g1 < 0 ∧ 0 < g2)) :
    ∃ t8, nb t8 = true ∧ evS B_law_stretches_1 (stE P F fo last T (.int T2) g1 g2 s8) = .next (stE P F (fo ++ [lE (fr (crM T T2 g1 g2) (crQ g1 g2)) (fr (crM T T2 g1 g2) (crQ g1 g2)) (sg g1) (sg g2)]) (sg g2) T (.int T2) g1 g2 t8) := by
  have m1 := mulD_sm sT (s2.sub s1) (by decide)
  have m2 := mulD_sm s1 (sT2.sub sT) (by decide)
  have sA : Sm 400 (T * (g2 - g1) - g1 * (T2 - T)) := (((sT.mul (s2.sub s1)).mono (by decide : _ ≤ 390)).sub ((s1.mul (sT2.sub sT)).mono (by decide : _ ≤ 390))).mono (by decide)
  have sD : Sm 400 (g2 - g1) := (s2.sub s1).mono (by decide)
  have lf2 : fo.length < 16777216 := by omega
  have lw := r_law_lowest (k := 400) (a := T * (g2 - g1) - g1 * (T2 - T)) (b := g2 - g1) (by omega) sA sD (by decide)
  have e : (if 0 < g2 - g1 then fr (T * (g2 - g1) - g1 * (T2 - T)) (g2 - g1) else fr (-(T * (g2 - g1) - g1 * (T2 - T))) (-(g2 - g1))) = fr (crM T T2 g1 g2) (crQ g1 g2) := by
    unfold crM crQ
    rcases hg with ⟨h1, h2⟩ | ⟨h1, h2⟩
    · rw [if_neg (by omega), show ((g1.natAbs : Int) + g2.natAbs) = -(g2 - g1) by omega, show (g1.natAbs : Int) = g1 by omega]
      congr 1
      grind
    · rw [if_pos (by omega), show ((g1.natAbs : Int) + g2.natAbs) = g2 - g1 by omega, show (g1.natAbs : Int) = -g1 by omega]
      congr 1
      grind
  rw [e] at lw
  refine ⟨.val (fr (crM T T2 g1 g2) (crQ g1 g2)), rfl, ?_⟩
  generalize fr (crM T T2 g1 g2) (crQ g1 g2) = z at *
  rcases hg with ⟨h1, h2⟩ | ⟨h1, h2⟩
  · have a1 : ¬ g1 < 0 := by omega
    have a2 : ¬ 0 < g2 := by omega
    have a3 : g1 ≠ 0 := by omega
    have a4 : g2 ≠ 0 := by omega
    simp [B_law_stretches_1, stE, h1, h2, a1, a2, a3, a4, subD, sg, m1, m2, lw, free_nb n8, lf2, lE]
  · have a1 : ¬ 0 < g1 := by omega
    have a2 : ¬ g2 < 0 := by omega
    have a3 : g1 ≠ 0 := by omega
    have a4 : g2 ≠ 0 := by omega
    simp [B_law_stretches_1, stE, h1, h2, a1, a2, a3, a4, subD, sg, m1, m2, lw, free_nb n8, lf2, lE]
end K02
set_option Elab.async false
set_option linter.all false
set_option maxRecDepth 100000
set_option maxHeartbeats 4000000
namespace K02
open PySem PySem.Spec PyProof.Rows L2 DV DV.Pl
/-- the end that is told -/
def oD : Option Int → DV.D
  | none => .none
  | some T => .int T
def eE : Option Int → DV.D
  | none => .none
  | some T => t1D T
theorem ixlast (fo : List DV.D) (x : DV.D) : ixD (.list (fo ++ [x])) (.int (-1)) = .ok x := ix_last (by simp)
theorem lE1 (S E : DV.D) (ah be : Int) : ixD (lE S E ah be) (.int 1) = .ok E := by simp [lE]
theorem lE0 (S E : DV.D) (ah be : Int) : ixD (lE S E ah be) (.int 0) = .ok S := by simp [lE]
theorem lE_from (S E : DV.D) (ah be : Int) : sliceD (lE S E ah be) (some 2) none = .ok (.tuple [.int ah, .int be]) := by
  have := cut_from [S, E, PyData.int ah, PyData.int be] 2
  simp only [lE, sliceD]
  rw [show ((2 : Nat) : Int) = 2 from rfl] at this
  rw [this]; rfl
theorem lE_to (S E : DV.D) (ah be : Int) : sliceD (lE S E ah be) none (some 3) = .ok (.tuple [S, E, .int ah]) := by
  have := cut_to [S, E, PyData.int ah, PyData.int be] 3
  simp only [lE, sliceD]
  rw [show ((3 : Nat) : Int) = 3 from rfl] at this
  rw [this]; rfl
theorem isN_oD (E : Option Int) : isN false (oD E) .none = .ok (.bool E.isNone) := by cases E <;> rfl
theorem lE_put (S X : DV.D) (ah be : Int) : addD (.tuple [S, X]) (.tuple [.int ah, .int be]) = .ok (lE S X ah be) := addT [S, X] [.int ah, .int be] (by simp)
theorem lE_end (S E : DV.D) (ah l : Int) : addD (.tuple [S, E, .int ah]) (.tuple [.int l]) = .ok (lE S E ah l) := addT [S, E, .int ah] [.int l] (by simp)
theorem sg_z : sg 0 = 0 := rfl
theorem neT (T : Int) : neD (t1D T) (.tuple [.int T, .int 1]) = .ok (.bool false) := by
  unfold t1D; rw [ne2]; simp
/-- a meeting that is open goes on, or ends -/
theorem st_open (P F : DV.D) (fo : List DV.D) (sh : SeqAt.shaped (.list (fo ++ [lE (t1D T0) (t1D T) ah 0])) = true) (lf : fo.length < 1000) (last : Int) (E : Option Int) (g2 : Int) (s8 : Slot) :
    evS B_law_stretches_1 (stE P F (fo ++ [lE (t1D T0) (t1D T) ah 0]) last T (oD E) 0 g2 s8) = .next (stE P F (fo ++ [lE (t1D T0) (if g2 = 0 then eE E else t1D T) ah (sg g2)]) (if g2 ≠ 0 then sg g2 else last) T (oD E) 0 g2 s8) := by
  have ne := neT T
  by_cases c : g2 = 0
  · subst c
    cases E with
    | none => simp [B_law_stretches_1, stE, sh, ixlast, lE1, lE0, lE_from, lE_put, ne, oD, eE, isN, setL_last, sg_z]
    | some T2 =>
      unfold t1D at sh ne
      simp only [eE]
      unfold t1D
      simp [B_law_stretches_1, stE, sh, ixlast, lE1, lE0, lE_from, lE_put, ne, oD, isN, setL_last, sg_z]
  · simp [B_law_stretches_1, stE, sh, ixlast, lE1, lE0, lE_to, lE_end, ne, setL_last, c, sg_bool]
/-- one begins here -/
theorem st_new (P F : DV.D) (fo : List DV.D) (sh : SeqAt.shaped (.list fo) = true) (cd : fo = [] ∨ ∃ fo' S m q ah be, fo = fo' ++ [lE S (.tuple [.int m, .int q]) ah be] ∧ ¬ (m = T ∧ q = 1)) (lf : fo.length < 1000) (last : Int) (E : Option Int) (g2 : Int) (s8 : Slot) :
    evS B_law_stretches_1 (stE P F fo last T (oD E) 0 g2 s8) = .next (stE P F (fo ++ [lE (t1D T) (if g2 = 0 then eE E else t1D T) last (sg g2)]) (if g2 ≠ 0 then sg g2 else last) T (oD E) 0 g2 s8) := by
  have lf2 : fo.length < 16777216 := by omega
  have key : ∀ x : Bool, (ev (.or (.ownNil 2 false) (.cmp .ne (.ix (.ownIx 2 (.neg (.cst (.int (1))))) (.cst (.int (1)))) (.tup (.cons (.var 4) (.cons (.cst (.int (1))) .nil)))))).t (stE P F fo last T (oD E) 0 g2 s8) = .ok (true, stE P F fo last T (oD E) 0 g2 s8) := fun _ => by
    rcases cd with rfl | ⟨fo', S, m, q, ah', be', rfl, nc⟩
    · simp [stE]
    · simp [stE, sh, ixlast, lE1, ne2]
      by_cases hm : m = T
      · exact .inr fun hq => nc ⟨hm, hq⟩
      · exact .inl hm
  have key := key true
  have L1 : ∀ a b : Int, lE (t1D T) (t1D T) a b = .tuple [.tuple [.int T, .int 1], .tuple [.int T, .int 1], .int a, .int b] := fun _ _ => rfl
  have ap : evS (.ite (.and (.cmp .eq (.var 6) (.cst (.int (0)))) (.or (.ownNil 2 false) (.cmp .ne (.ix (.ownIx 2 (.neg (.cst (.int (1))))) (.cst (.int (1)))) (.tup (.cons (.var 4) (.cons (.cst (.int (1))) .nil)))))) (.seq (.app 2 (.tup (.cons (.tup (.cons (.var 4) (.cons (.cst (.int (1))) .nil))) (.cons (.tup (.cons (.var 4) (.cons (.cst (.int (1))) .nil))) (.cons (.var 3) (.cons (.cst (.int (0))) .nil)))))) .skip) .skip) (stE P F fo last T (oD E) 0 g2 s8) = .next (stE P F (fo ++ [lE (t1D T) (t1D T) last 0]) last T (oD E) 0 g2 s8) := by
    have k0 : (ev (.and (.cmp .eq (.var 6) (.cst (.int (0)))) (.or (.ownNil 2 false) (.cmp .ne (.ix (.ownIx 2 (.neg (.cst (.int (1))))) (.cst (.int (1)))) (.tup (.cons (.var 4) (.cons (.cst (.int (1))) .nil))))))).t (stE P F fo last T (oD E) 0 g2 s8) = .ok (true, stE P F fo last T (oD E) 0 g2 s8) := by
      rw [Pl.t_and]
      have : (ev (.cmp .eq (.var 6) (.cst (.int (0))))).t (stE P F fo last T (oD E) 0 g2 s8) = .ok (true, stE P F fo last T (oD E) 0 g2 s8) := by simp [stE]
      rw [this, Out.bind_ok, r_kA, if_pos rfl, key]
    rw [Pl.s_ite, k0, Out.so_ok]
    simp [cite, stE, lf2, lE, t1D]
  unfold B_law_stretches_1
  rw [Pl.s_seq]
  have s1 : evS (.set (.name 3) (.ite (.cmp .ne (.var 6) (.cst (.int (0)))) (.bin .sub (.cmp .gt (.var 6) (.cst (.int (0)))) (.cmp .lt (.var 6) (.cst (.int (0))))) (.var 3))) (stE P F fo last T (oD E) 0 g2 s8) = .next (stE P F fo last T (oD E) 0 g2 s8) := by simp [stE]
  rw [s1, bnd_next, Pl.s_seq, ap, bnd_next]
  by_cases c : g2 = 0
  · subst c
    cases E with
    | none => simp [stE, ixlast, lE1, lE0, lE_from, lE_put, oD, eE, isN, setL_last, sg_z]
    | some T2 => simp [stE, ixlast, lE1, lE0, lE_from, lE_put, oD, eE, isN, setL_last, sg_z, t1D]
  · simp [stE, ixlast, lE1, lE0, lE_to, lE_end, setL_last, c, sg_bool]
end K02
set_option Elab.async false
set_option linter.all false
set_option maxRecDepth 100000
set_option maxHeartbeats 4000000
namespace K02
open PySem PySem.Spec PyProof.Rows L2 DV DV.Pl
/-! the law's stretches, with types -/
structure Ent where
  m : Int
  q : Int
  E : DV.D
  ah : Int
  be : Int
def Ent.d (e : Ent) : DV.D := lE (.tuple [.int e.m, .int e.q]) e.E e.ah e.be
structure LS where
  dn : List Ent
  op : Option (Int × Int)
  last : Int
def LS.fo (s : LS) (E : DV.D) : List DV.D := s.dn.map Ent.d ++ (match s.op with
  | some o => [lE (t1D o.1) E o.2 0]
  | none => [])
def czM (T T2 g1 g2 : Int) : Int := crM T T2 g1 g2 / (Int.gcd (crM T T2 g1 g2) (crQ g1 g2) : Nat)
def czQ (T T2 g1 g2 : Int) : Int := crQ g1 g2 / (Int.gcd (crM T T2 g1 g2) (crQ g1 g2) : Nat)
def LS.go (s : LS) (T T2 g1 g2 : Int) : LS :=
  if g1 = 0 then
    if g2 = 0 then ⟨s.dn, some (s.op.getD (T, s.last)), s.last⟩
    else ⟨s.dn ++ [⟨(s.op.getD (T, s.last)).1, 1, t1D T, (s.op.getD (T, s.last)).2, sg g2⟩], none, sg g2⟩
  else if sg g1 * sg g2 < 0 then ⟨s.dn ++ [⟨czM T T2 g1 g2, czQ T T2 g1 g2, .tuple [.int (czM T T2 g1 g2), .int (czQ T T2 g1 g2)], sg g1, sg g2⟩], none, sg g2⟩
  else ⟨s.dn, none, if g2 ≠ 0 then sg g2 else sg g1⟩
structure EOk (e : Ent) : Prop where
  q0 : 0 < e.q
  m0 : 0 ≤ e.m
  sm : Sm 400 e.m
  sq : Sm 220 e.q
  sl : Sm 160 (e.m / e.q)
  ah : Sgn e.ah
  be : Sgn e.be
structure LOk (s : LS) (n : Nat) : Prop where
  en : ∀ e ∈ s.dn, EOk e
  op : ∀ o, s.op = some o → 0 ≤ o.1 ∧ Sm 150 o.1 ∧ Sgn o.2 ∧ o.2 = s.last
  len : s.dn.length + n < 100
  last : Sgn s.last
/-- all that is closed ended ahead of T -/
def Ed (s : LS) (T : Int) : Prop := ∀ e ∈ s.dn, ∃ m q, e.E = .tuple [.int m, .int q] ∧ 0 < q ∧ m < T * q
theorem Ed.mono {s : LS} {T T2 : Int} (h : Ed s T) (l : T ≤ T2) : Ed s T2 := fun e he => by
  obtain ⟨m, q, e1, q0, lt⟩ := h e he
  exact ⟨m, q, e1, q0, Int.lt_of_lt_of_le lt (Int.mul_le_mul_of_nonneg_right l (by omega))⟩
theorem nc2 (m q : Int) : Nc 1 (.tuple [.int m, .int q]) := nc_tup.mpr fun z hz => by
  simp at hz
  rcases hz with rfl | rfl <;> exact nc_int 0 _
theorem nc_lE {S E : DV.D} (ah be : Int) (hS : Nc 1 S) (hE : Nc 1 E) : Nc 2 (lE S E ah be) := nc_tup.mpr fun z hz => by
  simp at hz
  rcases hz with rfl | rfl | rfl | rfl
  · exact hS
  · exact hE
  · exact nc_int _ _
  · exact nc_int _ _
theorem sh_dn {s : LS} {T : Int} (h : Ed s T) : ∀ x ∈ s.dn.map Ent.d, Nc 2 x := fun x hx => by
  obtain ⟨e, he, rfl⟩ := List.mem_map.mp hx
  obtain ⟨m, q, e1, _⟩ := h e he
  unfold Ent.d
  rw [e1]
  exact nc_lE _ _ (nc2 _ _) (nc2 _ _)
theorem cz_parts {T T2 g1 g2 : Int} (T0 : 0 ≤ T) (lt : T < T2) (sT : Sm 150 T) (sT2 : Sm 150 T2) (s1 : Sm 210 g1) (s2 : Sm 210 g2) (h1 : g1 ≠ 0) (h2 : g2 ≠ 0) : ∃ g, 0 < g ∧ crM T T2 g1 g2 = g * czM T T2 g1 g2 ∧ crQ g1 g2 = g * czQ T T2 g1 g2 ∧ fr (crM T T2 g1 g2) (crQ g1 g2) = .tuple [.int (czM T T2 g1 g2), .int (czQ T T2 g1 g2)] ∧ 0 < czQ T T2 g1 g2 ∧ 0 ≤ czM T T2 g1 g2 ∧ Sm 400 (czM T T2 g1 g2) ∧ Sm 220 (czQ T T2 g1 g2) ∧ czM T T2 g1 g2 < T2 * czQ T T2 g1 g2 ∧ Sm 160 (czM T T2 g1 g2 / czQ T T2 g1 g2) := by
  have q0 : 0 < crQ g1 g2 := by unfold crQ; omega
  have m0 : 0 ≤ crM T T2 g1 g2 := by
    unfold crM
    have a1 : 0 ≤ T * ((g1.natAbs : Int) + g2.natAbs) := Int.mul_nonneg T0 (by omega)
    have a2 : 0 ≤ (g1.natAbs : Int) * (T2 - T) := Int.mul_nonneg (by omega) (by omega)
    omega
  have ml : crM T T2 g1 g2 < T2 * crQ g1 g2 := by
    unfold crM crQ
    have a3 : 0 < (g2.natAbs : Int) * (T2 - T) := Int.mul_pos (by omega) (by omega)
    have : T2 * ((g1.natAbs : Int) + g2.natAbs) - (T * ((g1.natAbs : Int) + g2.natAbs) + (g1.natAbs : Int) * (T2 - T)) = (g2.natAbs : Int) * (T2 - T) := by grind
    omega
  have cs := cr_sm sT sT2 s1 s2
  have sq : Sm 220 (crQ g1 g2) := by
    have n1 : Sm 210 (g1.natAbs : Int) := by unfold Sm at *; omega
    have n2 : Sm 210 (g2.natAbs : Int) := by unfold Sm at *; omega
    exact (n1.add n2).mono (by decide)
  obtain ⟨g, x, y, g0, e1, e2, e3, e4, e5, e6⟩ := low_parts (a := crM T T2 g1 g2) q0
  have ex : czM T T2 g1 g2 = x := e3
  have ey : czQ T T2 g1 g2 = y := e4
  rw [ex, ey]
  have y0 : 0 < y := Int.pos_of_mul_pos_right (a := g) (by omega) g0
  have x0 : 0 ≤ x := by
    rcases Int.lt_or_le x 0 with q | q
    · have := Int.mul_neg_of_pos_of_neg g0 q; omega
    · exact q
  have up : ∀ z : Int, z.natAbs ≤ (g * z).natAbs := fun z => by
    rw [Int.natAbs_mul]
    exact Nat.le_mul_of_pos_left _ (by omega)
  have lt2 : x < T2 * y := by
    rw [e1, e2, ← Int.mul_assoc, Int.mul_comm T2 g, Int.mul_assoc] at ml
    exact Int.lt_of_mul_lt_mul_left ml (by omega)
  have dv := Int.ediv_lt_of_lt_mul y0 lt2
  have dn := Int.ediv_nonneg x0 (show (0 : Int) ≤ y by omega)
  refine ⟨g, g0, e1, e2, by unfold fr; rw [e3, e4], y0, x0, ?_, ?_, lt2, ?_⟩
  · exact cs.1.le (by rw [e1]; exact up x)
  · exact sq.le (by rw [e2]; exact up y)
  · have : Sm 150 (x / y) := sT2.le (by omega)
    exact this.mono (by decide)
theorem Sgn.ne {x : Int} (h : x ≠ 0) : sg x ≠ 0 := by
  unfold sg; split
  · decide
  · split
    · decide
    · omega
theorem sg_same {x y : Int} (h : ¬ sg x * sg y < 0) (hx : x ≠ 0) : y = 0 ∨ decide (0 < x) = decide (0 < y) := by
  by_cases hy : y = 0
  · exact .inl hy
  · right
    refine decide_eq_decide.mpr ⟨fun q => ?_, fun q => ?_⟩
    · rcases Int.lt_or_le 0 y with z | z
      · exact z
      · exact absurd (by unfold sg; rw [if_pos q, if_neg (by omega), if_pos (by omega)]; decide) h
    · rcases Int.lt_or_le 0 x with z | z
      · exact z
      · exact absurd (by unfold sg; rw [if_neg (by omega), if_pos (by omega), if_pos q]; decide) h
/-- one turn -/
theorem st_turn (P F : DV.D) {s : LS} {n : Nat} {T T2 g1 g2 : Int} (E : Option Int) (hE : (E = none ∧ g2 = g1) ∨ (E = some T2 ∧ T < T2 ∧ Sm 150 T2)) (T0 : 0 ≤ T) (sT : Sm 150 T) (s1 : Sm 210 g1) (s2 : Sm 210 g2) (ok : LOk s (n + 1)) (ed : Ed s T) (ct : s.op ≠ none → g1 = 0) (s8 : Slot) (n8 : nb s8 = true) :
    (∃ t8, nb t8 = true ∧ evS B_law_stretches_1 (stE P F (s.fo (t1D T)) s.last T (oD E) g1 g2 s8) = .next (stE P F ((s.go T T2 g1 g2).fo (eE E)) (s.go T T2 g1 g2).last T (oD E) g1 g2 t8)) ∧ LOk (s.go T T2 g1 g2) n ∧ (E = some T2 → Ed (s.go T T2 g1 g2) T2) ∧ ((s.go T T2 g1 g2).op ≠ none → g2 = 0) := by
  have l1 := ok.len
  have one : Sm 220 1 := by unfold Sm; decide
  have e1 : ∀ T0 ah be : Int, 0 ≤ T0 → Sm 150 T0 → Sgn ah → Sgn be → EOk ⟨T0, 1, t1D T, ah, be⟩ := fun T0 ah be a b c d => ⟨by show (0 : Int) < 1; decide, a, b.mono (by decide), one, by rw [Int.ediv_one]; exact b.mono (by decide), c, d⟩
  by_cases c : g1 = 0
  · subst c
    have opn : 0 ≤ (s.op.getD (T, s.last)).1 ∧ Sm 150 (s.op.getD (T, s.last)).1 ∧ Sgn (s.op.getD (T, s.last)).2 ∧ (s.op.getD (T, s.last)).2 = s.last := by
      cases q : s.op with
      | none => exact ⟨T0, sT, ok.last, rfl⟩
      | some o => exact ok.op o q
    have run : evS B_law_stretches_1 (stE P F (s.fo (t1D T)) s.last T (oD E) 0 g2 s8) = .next (stE P F (s.dn.map Ent.d ++ [lE (t1D (s.op.getD (T, s.last)).1) (if g2 = 0 then eE E else t1D T) (s.op.getD (T, s.last)).2 (sg g2)]) (if g2 ≠ 0 then sg g2 else s.last) T (oD E) 0 g2 s8) := by
      cases q : s.op with
      | none =>
        have sh : SeqAt.shaped (.list (s.dn.map Ent.d)) = true := (nc_lst.mpr (sh_dn ed)).shaped (by decide)
        have := st_new (T := T) P F (s.dn.map Ent.d) sh (by
          cases e : s.dn.getLast? with
          | none => exact .inl (by rw [List.getLast?_eq_none_iff.mp e]; rfl)
          | some x =>
            obtain ⟨ys, hy⟩ := List.getLast?_eq_some_iff.mp e
            obtain ⟨m, q', e1, q0, lt⟩ := ed x (by rw [hy]; simp)
            refine .inr ⟨ys.map Ent.d, .tuple [.int x.m, .int x.q], m, q', x.ah, x.be, by rw [hy, List.map_append, ← e1]; rfl, fun z => ?_⟩
            obtain ⟨rfl, rfl⟩ := z
            omega) (by rw [List.length_map]; omega) s.last E g2 s8
        simp only [LS.fo, q, List.append_nil, Option.getD_none]
        exact this
      | some o =>
        have ob := ok.op o q
        have sh : SeqAt.shaped (.list (s.dn.map Ent.d ++ [lE (t1D o.1) (t1D T) o.2 0])) = true := (nc_lst.mpr fun x hx => by
          rcases List.mem_append.mp hx with hx | hx
          · exact sh_dn ed x hx
          · simp at hx; subst hx; exact nc_lE _ _ (nc2 _ _) (nc2 _ _)).shaped (by decide)
        have := st_open (T0 := o.1) (T := T) (ah := o.2) P F (s.dn.map Ent.d) sh (by rw [List.length_map]; omega) s.last E g2 s8
        simp only [LS.fo, q, Option.getD_some]
        exact this
    by_cases c2 : g2 = 0
    · subst c2
      have eg : s.go T T2 0 0 = ⟨s.dn, some (s.op.getD (T, s.last)), s.last⟩ := by unfold LS.go; rw [if_pos rfl, if_pos rfl]
      rw [eg]
      refine ⟨⟨s8, n8, ?_⟩, ⟨ok.en, fun o ho => ?_, by show s.dn.length + n < 100; omega, ok.last⟩, fun z => ?_, fun _ => rfl⟩
      · rw [run]; rfl
      · cases ho; exact opn
      · rcases hE with ⟨h, _⟩ | ⟨_, h, _⟩
        · rw [h] at z; cases z
        · exact ed.mono (by omega)
    · have eg : s.go T T2 0 g2 = ⟨s.dn ++ [⟨(s.op.getD (T, s.last)).1, 1, t1D T, (s.op.getD (T, s.last)).2, sg g2⟩], none, sg g2⟩ := by unfold LS.go; rw [if_pos rfl, if_neg c2]
      rw [eg]
      refine ⟨⟨s8, n8, ?_⟩, ⟨fun e he => ?_, fun o ho => ?_, ?_, sg_sgn _⟩, fun z => ?_, fun z => absurd rfl z⟩
      · rw [run, if_neg c2, if_pos c2]
        simp [LS.fo, Ent.d]; rfl
      · rcases List.mem_append.mp he with he | he
        · exact ok.en e he
        · simp at he; subst he; exact e1 _ _ _ opn.1 opn.2.1 opn.2.2.1 (sg_sgn _)
      · cases ho
      · simp; omega
      · rcases hE with ⟨h, _⟩ | ⟨_, h, _⟩
        · rw [h] at z; cases z
        · intro e he
          rcases List.mem_append.mp he with he | he
          · exact ed.mono (by omega) e he
          · simp at he; subst he
            exact ⟨T, 1, rfl, by decide, by omega⟩
  · have hop : s.op = none := by
      cases q : s.op with
      | none => rfl
      | some o => exact absurd (ct (by rw [q]; simp)) c
    have f0 : ∀ E, s.fo E = s.dn.map Ent.d := fun E => by unfold LS.fo; rw [hop]; simp
    by_cases c2 : sg g1 * sg g2 < 0
    · have hg := sg_opp c2
      have eg : s.go T T2 g1 g2 = ⟨s.dn ++ [⟨czM T T2 g1 g2, czQ T T2 g1 g2, .tuple [.int (czM T T2 g1 g2), .int (czQ T T2 g1 g2)], sg g1, sg g2⟩], none, sg g2⟩ := by unfold LS.go; rw [if_neg c, if_pos c2]
      rcases hE with ⟨_, h⟩ | ⟨rfl, lt, sT2⟩
      · omega
      obtain ⟨g, g0, _, _, ef, q0, m0, sm, sq, l2, sl⟩ := cz_parts T0 lt sT sT2 s1 s2 (by omega) (by omega)
      obtain ⟨t8, n8', run⟩ := st_cross P F (s.dn.map Ent.d) (by rw [List.length_map]; omega) s.last T T2 g1 g2 sT sT2 s1 s2 s8 n8 hg
      rw [eg]
      refine ⟨⟨t8, n8', ?_⟩, ⟨fun e he => ?_, fun o ho => ?_, ?_, sg_sgn _⟩, fun z => ?_, fun z => absurd rfl z⟩
      · rw [f0, show oD (some T2) = .int T2 from rfl, run, ef]
        simp [LS.fo, Ent.d]
      · rcases List.mem_append.mp he with he | he
        · exact ok.en e he
        · simp at he; subst he; exact ⟨q0, m0, sm, sq, sl, sg_sgn _, sg_sgn _⟩
      · cases ho
      · simp; omega
      · intro e he
        rcases List.mem_append.mp he with he | he
        · exact ed.mono (by omega) e he
        · simp at he; subst he
          exact ⟨_, _, rfl, q0, l2⟩
    · have eg : s.go T T2 g1 g2 = ⟨s.dn, none, if g2 ≠ 0 then sg g2 else sg g1⟩ := by unfold LS.go; rw [if_neg c, if_neg c2]
      have run := st_none P F (oD E) (s.dn.map Ent.d) s.last T g1 g2 s8 c (sg_same c2 c)
      rw [eg]
      refine ⟨⟨s8, n8, ?_⟩, ⟨ok.en, fun o ho => ?_, by show s.dn.length + n < 100; omega, ?_⟩, fun z => ?_, fun z => absurd rfl z⟩
      · rw [f0, run]
        simp [LS.fo]
      · cases ho
      · show Sgn (if g2 ≠ 0 then sg g2 else sg g1)
        split <;> exact sg_sgn _
      · rcases hE with ⟨h, _⟩ | ⟨_, h, _⟩
        · rw [h] at z; cases z
        · exact ed.mono (by omega)
end K02
set_option Elab.async false
set_option linter.all false
set_option maxRecDepth 100000
set_option maxHeartbeats 4000000
namespace K02
open PySem PySem.Spec PyProof.Rows L2 DV DV.Pl
section
variable {p : Pn} {a b : Int}
def outE (p : Pn) (a b : Int) (xs ys : List Int) (e : Ent) : DV.D := .tuple [fr (Pos p a b xs ys false e.m e.q) (Wh p a b * e.q), kS (decide (e.ah * e.be < 0))]
/-- the program's state that goes with the law's -/
def PS (p : Pn) (a b : Int) (xs ys : List Int) (s : LS) : PSt := (s.dn.map (outE p a b xs ys), s.last, s.op.map fun o => plD p a b xs ys false o.1)
theorem outE_one {xs ys : List Int} (T : Int) (E : DV.D) (ah be : Int) : outE p a b xs ys ⟨T, 1, E, ah, be⟩ = .tuple [plD p a b xs ys false T, kS (decide (ah * be < 0))] := by
  unfold outE plD; rw [Int.mul_one]
theorem kS_eq {s l : Int} (hs : Sgn s) (hl : l = 1 ∨ l = -1) : decide (s = -l) = decide (s * l < 0) := by
  rcases hs with rfl | rfl | rfl <;> rcases hl with rfl | rfl <;> decide
theorem sg_pm {x : Int} (h : x ≠ 0) : sg x = 1 ∨ sg x = -1 := by
  unfold sg; split
  · exact .inl rfl
  · rw [if_pos (by omega)]; exact .inr rfl
theorem sg_sq (x : Int) : ¬ sg x * sg x < 0 := by
  by_cases h : x = 0
  · subst h; decide
  · rcases sg_pm h with e | e <;> rw [e] <;> decide
/-- both do the same at a mark -/
theorem sim_step {xs ys : List Int} {s : LS} {T T2 g1 g2 : Int} {cp : DV.D} {n : Nat} (ok : LOk s n) (ct : s.op ≠ none → g1 = 0) (hc : sg g1 * sg g2 < 0 → cp = fr (Pos p a b xs ys false (czM T T2 g1 g2) (czQ T T2 g1 g2)) (Wh p a b * czQ T T2 g1 g2)) :
    dStep (sg g1) (sg g2) (plD p a b xs ys false T) cp (PS p a b xs ys s).1 (PS p a b xs ys s).2.1 (PS p a b xs ys s).2.2 = PS p a b xs ys (s.go T T2 g1 g2) := by
  by_cases c : g1 = 0
  · subst c
    by_cases c2 : g2 = 0
    · subst c2
      cases q : s.op with
      | none => simp [dStep, PS, LS.go, sg_z, q]
      | some o => simp [dStep, PS, LS.go, sg_z, q]
    · have n2 := Sgn.ne c2
      have pm := sg_pm c2
      cases q : s.op with
      | none =>
        have := kS_eq ok.last pm
        simp [dStep, PS, LS.go, sg_z, q, c2, n2, bD, outE_one, this]
      | some o =>
        have := kS_eq ok.last pm
        have e := (ok.op o q).2.2.2
        simp [dStep, PS, LS.go, sg_z, q, c2, n2, bD, outE_one, this, e]
  · have hop : s.op = none := by
      cases q : s.op with
      | none => rfl
      | some o => exact absurd (ct (by rw [q]; simp)) c
    have n1 := Sgn.ne c
    by_cases c2 : sg g1 * sg g2 < 0
    · have hg : sg g2 ≠ 0 := fun z => by rw [z] at c2; simp at c2
      have c3 : sg g1 * sg g2 < 0 := c2
      have e := hc c2
      subst e
      have eg : s.go T T2 g1 g2 = ⟨s.dn ++ [⟨czM T T2 g1 g2, czQ T T2 g1 g2, .tuple [.int (czM T T2 g1 g2), .int (czQ T T2 g1 g2)], sg g1, sg g2⟩], none, sg g2⟩ := by unfold LS.go; rw [if_neg c, if_pos c2]
      rw [eg]
      simp [dStep, PS, hop, n1, hg, c2, outE, kS]
    · have eg : s.go T T2 g1 g2 = ⟨s.dn, none, if g2 ≠ 0 then sg g2 else sg g1⟩ := by unfold LS.go; rw [if_neg c, if_neg c2]
      rw [eg]
      have e2 : (sg g2 ≠ 0) = (g2 ≠ 0) := propext ⟨fun h z => h (by rw [z]; rfl), fun h => Sgn.ne h⟩
      by_cases c4 : g2 = 0
      · subst c4; simp [dStep, PS, hop, n1, sg_z]
      · have := Sgn.ne c4
        simp [dStep, PS, hop, n1, c2, c4, this]
def lsNx (p : Pn) (a b : Int) (xs ys : List Int) (T : Int) : List Int → LS → LS
  | [], s => s.go T T (gp p a b xs ys T) (gp p a b xs ys T)
  | T2 :: _, s => s.go T T2 (gp p a b xs ys T) (gp p a b xs ys T2)
def lsRun (p : Pn) (a b : Int) (xs ys : List Int) : List Int → LS → LS
  | [], s => s
  | T :: r, s => lsRun p a b xs ys r (lsNx p a b xs ys T r s)
def hdE : List Int → DV.D
  | [] => .none
  | T :: _ => t1D T
theorem st_loop (h : Fl p a b) {xs ys : List Int} (k : Two p a b xs ys) (P F : DV.D) : ∀ (suf : List Int), (∀ T ∈ suf, T ∈ Mk xs ys) → Srt suf → ∀ (s : LS), LOk s suf.length → (∀ T, suf.head? = some T → Ed s T ∧ (s.op ≠ none → gp p a b xs ys T = 0)) → ∀ s4 s5 s6 s7 s8, nb s4 = true → nb s5 = true → nb s6 = true → nb s7 = true → nb s8 = true →
    LOk (lsRun p a b xs ys suf s) 0 ∧ dRun p a b xs ys suf (PS p a b xs ys s) = PS p a b xs ys (lsRun p a b xs ys suf s) ∧
    ∃ t4 t5 t6 t7 t8, eachS (asg (.cons (.name 4) (.cons (.name 5) (.cons (.name 6) (.cons (.name 7) .nil))))) (evS B_law_stretches_1) (gapE p a b xs ys suf) ⟨[.val P, .val F, .own (s.fo (hdE suf)), .val (.int s.last), s4, s5, s6, s7, s8], []⟩
      = .next ⟨[.val P, .val F, .own ((lsRun p a b xs ys suf s).fo .none), .val (.int (lsRun p a b xs ys suf s).last), t4, t5, t6, t7, t8], []⟩
  | [], _, _, s, ok, _, s4, s5, s6, s7, s8, n4, n5, n6, n7, n8 => ⟨ok, rfl, s4, s5, s6, s7, s8, rfl⟩
  | [T], hm, hs, s, ok, hd, s4, s5, s6, s7, s8, n4, n5, n6, n7, n8 => by
    have sT := mk_sm h k (hm T (by simp))
    obtain ⟨ed, ct⟩ := hd T rfl
    have g := gp_sm h k sT.1
    obtain ⟨⟨t8, m8, run⟩, ok2, _, _⟩ := st_turn (T := T) (T2 := T) (n := 0) P F none (.inl ⟨rfl, rfl⟩) sT.2 sT.1 g g ok ed ct s8 n8
    have ss := sim_step (p := p) (a := a) (b := b) (xs := xs) (ys := ys) (T := T) (T2 := T) (g1 := gp p a b xs ys T) (g2 := gp p a b xs ys T) (cp := .none) ok ct (fun z => absurd z (sg_sq _))
    refine ⟨ok2, ss, .val (.int T), .val .none, .val (.int (gp p a b xs ys T)), .val (.int (gp p a b xs ys T)), t8, ?_⟩
    simp only [stE, oD, eE] at run
    simp [gapE, hdE, each_cons, free_nb n4, free_nb n5, free_nb n6, free_nb n7, run]
    exact ⟨rfl, rfl⟩
  | T :: T2 :: r, hm, hs, s, ok, hd, s4, s5, s6, s7, s8, n4, n5, n6, n7, n8 => by
    have sT := mk_sm h k (hm T (by simp))
    have sT2 := mk_sm h k (hm T2 (by simp))
    obtain ⟨hs1, hs2⟩ := List.pairwise_cons.mp hs
    have lt : T < T2 := by have := hs1 T2 (by simp); simpa [ltI] using this
    obtain ⟨ed, ct⟩ := hd T rfl
    have g1 := gp_sm h k sT.1
    have g2 := gp_sm h k sT2.1
    obtain ⟨⟨t8, m8, run⟩, ok2, ed2, ct2⟩ := st_turn (T := T) (T2 := T2) (n := r.length + 1) P F (some T2) (.inr ⟨rfl, lt, sT2.1⟩) sT.2 sT.1 g1 g2 ok ed ct s8 n8
    have ss := sim_step (p := p) (a := a) (b := b) (xs := xs) (ys := ys) (T := T) (T2 := T2) (g1 := gp p a b xs ys T) (g2 := gp p a b xs ys T2) (cp := crD p a b xs ys T T2) ok ct (fun z => by
      have z2 := sg_opp z
      obtain ⟨g, g0, e1, e2, _, q0, _⟩ := cz_parts sT.2 lt sT.1 sT2.1 g1 g2 (by omega) (by omega)
      unfold crD
      have W0 := h.bo.1.W0
      generalize czM T T2 (gp p a b xs ys T) (gp p a b xs ys T2) = cm at *
      generalize czQ T T2 (gp p a b xs ys T) (gp p a b xs ys T2) = cq at *
      rw [e1, e2, Pos_hom false g cm cq g0]
      exact fr_eq (Int.mul_pos W0 (Int.mul_pos g0 q0)) (Int.mul_pos W0 q0) (by grind))
    obtain ⟨ok3, e3, t4, t5, t6, t7, t9, ih⟩ := st_loop h k P F (T2 :: r) (fun x hx => hm x (List.mem_cons_of_mem _ hx)) hs2 (s.go T T2 (gp p a b xs ys T) (gp p a b xs ys T2)) ok2 (fun U hU => by
      cases hU; exact ⟨ed2 rfl, ct2⟩) (.val (.int T)) (.val (.int T2)) (.val (.int (gp p a b xs ys T))) (.val (.int (gp p a b xs ys T2))) t8 rfl rfl rfl rfl m8
    refine ⟨ok3, ?_, t4, t5, t6, t7, t9, ?_⟩
    · show dRun p a b xs ys (T2 :: r) (dStep _ _ _ _ _ _ _) = _
      rw [ss]; exact e3
    · simp only [stE, oD, eE] at run
      simp only [hdE] at ih
      simp [gapE, hdE, each_cons, free_nb n4, free_nb n5, free_nb n6, free_nb n7, run]
      exact ih
theorem r_law_stretches (h : Fl p a b) {xs ys : List Int} (k : Two p a b xs ys) (gs : F_law_gaps.run [p.d, .tuple [.int a, .int b]] = .ok (.list (gapE p a b xs ys (Mk xs ys)))) :
    ∃ s, LOk s 0 ∧ dRun p a b xs ys (Mk xs ys) ([], 0, none) = PS p a b xs ys s ∧ F_law_stretches.run [p.d, .tuple [.int a, .int b]] = .ok (.list (s.fo .none)) := by
  have l := k.lens h
  have hl : (Mk xs ys).length ≤ 10 := by
    have := srt_len ltI (xs ++ ys)
    unfold Mk; simp only [List.length_append] at this; omega
  obtain ⟨ok, e, t4, t5, t6, t7, t8, run⟩ := st_loop h k p.d (.tuple [.int a, .int b]) (Mk xs ys) (fun T hT => hT) (srtR_pw ord_I _) ⟨[], none, 0⟩ ⟨fun e he => (by cases he), fun o ho => (by cases ho), (by simp; omega), .inr (.inl rfl)⟩ (fun T _ => ⟨fun e he => (by cases he), fun z => absurd rfl z⟩) .no .no .no .no .no rfl rfl rfl rfl rfl
  refine ⟨_, ok, e, ?_⟩
  generalize lsRun p a b xs ys (Mk xs ys) ⟨[], none, 0⟩ = sf at *
  have f0 : (⟨[], none, 0⟩ : LS).fo (hdE (Mk xs ys)) = [] := rfl
  rw [f0] at run
  simp [F_law_stretches, gs, run]
end
end K02
set_option Elab.async false
set_option linter.all false
set_option maxRecDepth 100000
set_option maxHeartbeats 4000000
namespace K02
open PySem PySem.Spec PyProof.Rows L2 DV DV.Pl
section
variable {p : Pn} {a b : Int}
def LS.all (s : LS) : List Ent := s.dn ++ (match s.op with
  | some o => [⟨o.1, 1, .none, o.2, 0⟩]
  | none => [])
theorem LS.fo_all (s : LS) : s.fo .none = s.all.map Ent.d := by
  unfold LS.fo LS.all
  cases s.op <;> simp [Ent.d, t1D]
theorem LOk.all {s : LS} {n : Nat} (ok : LOk s n) : (∀ e ∈ s.all, EOk e) ∧ s.all.length ≤ 100 := by
  have l := ok.len
  unfold LS.all
  cases q : s.op with
  | none => exact ⟨fun e he => ok.en e (by simpa using he), by simp; omega⟩
  | some o =>
    have b := ok.op o q
    refine ⟨fun e he => ?_, by simp; omega⟩
    rcases List.mem_append.mp he with he | he
    · exact ok.en e he
    · simp at he; subst he
      exact ⟨(by show (0 : Int) < 1; decide), b.1, b.2.1.mono (by decide), (by show Sm 220 1; unfold Sm; decide), (by show Sm 160 (o.1 / 1); rw [Int.ediv_one]; exact b.2.1.mono (by decide)), b.2.2.1, .inr (.inl rfl)⟩
theorem metOut_all {xs ys : List Int} (s : LS) : metOut (PS p a b xs ys s) = s.all.map (outE p a b xs ys) := by
  unfold metOut PS LS.all
  cases s.op with
  | none => simp
  | some o => simp [outE_one, kS]
theorem lmet_loop (h : Fl p a b) {xs ys : List Int} (k : Two p a b xs ys) : ∀ (es : List Ent), (∀ e ∈ es, EOk e) → ∀ fo : List DV.D, fo.length + es.length < 1000 → ∀ s5 s6 s7 s8 s9 s10 s11 s12 s13 s14, nb s5 = true → nb s6 = true → nb s7 = true → nb s8 = true → nb s9 = true → nb s10 = true → nb s11 = true → nb s12 = true → nb s13 = true → nb s14 = true →
    ∃ t5 t6 t7 t8 t9 t10 t11 t12 t13 t14, eachS (asg (.cons (.cons (.name 13) (.cons (.name 14) .nil)) (.cons (.name 5) (.cons (.name 6) (.cons (.name 7) .nil))))) (evS B_law_met_1) (es.map Ent.d) ⟨[.val p.d, .val (.tuple [.int a, .int b]), .val (.int (Wh p a b)), .val (rwI xs ys), .own fo, s5, s6, s7, s8, s9, s10, s11, s12, s13, s14], []⟩
      = .next ⟨[.val p.d, .val (.tuple [.int a, .int b]), .val (.int (Wh p a b)), .val (rwI xs ys), .own (fo ++ es.map (outE p a b xs ys)), t5, t6, t7, t8, t9, t10, t11, t12, t13, t14], []⟩
  | [], _, fo, _, s5, s6, s7, s8, s9, s10, s11, s12, s13, s14, n5, n6, n7, n8, n9, n10, n11, n12, n13, n14 => ⟨s5, s6, s7, s8, s9, s10, s11, s12, s13, s14, by simp⟩
  | e :: es, he, fo, hl, s5, s6, s7, s8, s9, s10, s11, s12, s13, s14, n5, n6, n7, n8, n9, n10, n11, n12, n13, n14 => by
    have ok := he e (by simp)
    simp only [List.length_cons] at hl
    obtain ⟨t8, t9, t10, t11, t12, m8, m9, m10, m11, m12, run⟩ := lmet_turn h k fo (by omega) e.E e.ah e.be e.m e.q ok.q0 ok.m0 ok.sm ok.sq ok.sl ok.ah ok.be s8 s9 s10 s11 s12 n8 n9 n10 n11 n12
    obtain ⟨u5, u6, u7, u8, u9, u10, u11, u12, u13, u14, ih⟩ := lmet_loop h k es (fun x hx => he x (by simp [hx])) (fo ++ [outE p a b xs ys e]) (by simp; omega) (.val e.E) (.val (.int e.ah)) (.val (.int e.be)) t8 t9 t10 t11 t12 (.val (.int e.m)) (.val (.int e.q)) rfl rfl rfl m8 m9 m10 m11 m12 rfl rfl
    refine ⟨u5, u6, u7, u8, u9, u10, u11, u12, u13, u14, ?_⟩
    rw [List.map_cons, each_cons]
    simp only [List.append_assoc, List.singleton_append] at ih
    have run2 := run
    have eo : PyData.tuple [fr (Pos p a b xs ys false e.m e.q) (Wh p a b * e.q), kS (decide (e.ah * e.be < 0))] = outE p a b xs ys e := rfl
    rw [eo] at run2
    simp [Ent.d, lE, free_nb n5, free_nb n6, free_nb n7, free_nb n13, free_nb n14, run2]
    exact ih
theorem r_law_met (h : Fl p a b) {xs ys : List Int} (k : Two p a b xs ys) (cl : F_law_clock.run [p.d, .tuple [.int a, .int b]] = .ok (.list [.list (isD xs), .list (isD ys)])) :
    ∃ es : List Ent, (∀ e ∈ es, EOk e) ∧ es.length ≤ 100 ∧ metOut (dRun p a b xs ys (Mk xs ys) ([], 0, none)) = es.map (outE p a b xs ys) ∧
    F_law_met.run [p.d, .tuple [.int a, .int b]] = .ok (.list (es.map (outE p a b xs ys))) := by
  obtain ⟨s, ok, e, run⟩ := r_law_stretches h k (r_law_gaps h k cl)
  have al := ok.all
  obtain ⟨u5, u6, u7, u8, u9, u10, u11, u12, u13, u14, lp⟩ := lmet_loop h k s.all al.1 [] (by simp; omega) .no .no .no .no .no .no .no .no .no .no rfl rfl rfl rfl rfl rfl rfl rfl rfl rfl
  have pc := r_law_paces h
  refine ⟨s.all, al.1, al.2, by rw [e, metOut_all], ?_⟩
  rw [LS.fo_all] at run
  change F_law_clock.run _ = Out.ok (rwI xs ys) at cl
  simp only [List.nil_append] at lp
  simp [F_law_met, cl, pc, run, lp]
end
end K02
set_option Elab.async false
set_option linter.all false
set_option maxRecDepth 100000
set_option maxHeartbeats 4000000
namespace K02
open PySem PySem.Spec PyProof.Rows L2 DV DV.Pl
/-! what is asked of a flow -/
section
variable {p : Pn} {a b : Int}
theorem Fl.below (h : Fl p a b) : belowB (Pn.v p) a b = true := by simp [belowB, h.b0, h.cp, h.a0, h.lt]
theorem need_both_ok (h : Fl p a b) : F_need_both.run [p.d, .tuple [.int a, .int b]] = .ok .none := by
  have h1 := r_need_plan p.d ((nc_pn p).mono (by decide))
  rw [if_pos (by rw [planB_d]; exact h.ok)] at h1
  have h2 := r_is_below 24 a b (Pn.v p) (by decide) h.sb (by have := Pn.v_ok h.ok; omega) (by decide)
  rw [h.below] at h2
  simp [F_need_both, F_need_flow, h1, r_slowest, h2]
theorem sl_from (l : List DV.D) (n : Nat) : sliceD (.list l) (some (n : Int)) none = .ok (.list (l.drop n)) := by
  simp only [sliceD]; rw [cut_from]
theorem r_done_at (h : Fl p a b) {xs ys : List Int} (k : Two p a b xs ys) (cl : F_clocks.run [p.d, .tuple [.int a, .int b]] = .ok (.list [rw' p a b xs, rw' p a b ys])) :
    F_done_at.run [p.d, .tuple [.int a, .int b]] = .ok (.tuple [.list ((xs.drop 1).map (tm (Wh p a b) b)), .list ((ys.drop 1).map (tm (Wh p a b) b))]) := by
  have nb := need_both_ok h
  have sl := fun l : List Int => sl_from (l.map (tm (Wh p a b) b)) 1
  simp only [show ((1 : Nat) : Int) = 1 from rfl] at sl
  have hc := comp_t (i := 2) (f := .sl (.var 2) (.cst (.int 1)) .no) (e := ⟨[.val p.d, .val (.tuple [.int a, .int b]), .no], []⟩) (rw' p a b) (fun l => .list ((l.map (tm (Wh p a b) b)).drop 1)) [xs, ys] rfl (by simp) (fun l _ => by simp [rw', sl])
  simp only [List.map_cons, List.map_nil] at hc
  simp [F_done_at, nb, cl, hc, tupleD, List.map_drop]
theorem r_meetings (h : Fl p a b) (d : DV.D) (m : F_met.run [p.d, .tuple [.int a, .int b]] = .ok d) : F_meetings.run [p.d, .tuple [.int a, .int b]] = .ok d := by
  simp [F_meetings, need_both_ok h, m]
/-- who is home first -/
def homeV (p : Pn) (xs ys : List Int) : DV.D :=
  if xs.length = p.a.l.length + 1 then
    if ys.length = p.b.l.length + 1 then if xs.getLastD 0 = ys.getLastD 0 then .none else if xs.getLastD 0 < ys.getLastD 0 then .int 0 else .int 1
    else .int 0
  else if ys.length = p.b.l.length + 1 then .int 1 else .none
theorem lastD {l : List Int} (h : l ≠ []) : l.getLast? = some (l.getLastD 0) := by
  rw [List.getLastD_eq_getLast?]
  cases e : l.getLast? with
  | none => exact absurd (List.getLast?_eq_none_iff.mp e) h
  | some z => rfl
theorem r_home_at (h : Fl p a b) {xs ys : List Int} (k : Two p a b xs ys) (cl : F_clocks.run [p.d, .tuple [.int a, .int b]] = .ok (.list [rw' p a b xs, rw' p a b ys])) :
    F_home_at.run [p.d, .tuple [.int a, .int b]] = .ok (homeV p xs ys) := by
  have W0 := h.bo.1.W0
  have s := k.sm h
  have sW : Sm 200 (Wh p a b) := h.bo.1.sW.mono (by decide)
  have lx := lastD k.x.ne
  have ly := lastD k.y.ne
  have sx := (s.1 _ (List.mem_of_getLast? lx)).1
  have sy := (s.2 _ (List.mem_of_getLast? ly)).1
  have ixx : ixD (rw' p a b xs) (.int (-1)) = .ok (tm (Wh p a b) b (xs.getLastD 0)) := ix_last (by rw [List.getLast?_map, lx]; rfl)
  have ixy : ixD (rw' p a b ys) (.int (-1)) = .ok (tm (Wh p a b) b (ys.getLastD 0)) := ix_last (by rw [List.getLast?_map, ly]; rfl)
  have hc := comp_t (i := 5) (f := .cmp .eq (.bi .len (.cons (.ix (.var 2) (.var 5)) .nil)) (.bin .add (.bi .len (.cons (.ix (.ix (.var 0) (.var 5)) (.cst (.int (2)))) .nil)) (.cst (.int (1))))) (e := ⟨[.val p.d, .val (.tuple [.int a, .int b]), .val (.list [rw' p a b xs, rw' p a b ys]), .no, .no, .no], []⟩) (fun w : Bool => PyData.int (wI w)) (fun w => .bool (if w = true then decide (ys.length = p.b.l.length + 1) else decide (xs.length = p.a.l.length + 1))) [false, true] rfl (by decide) (fun w _ => by
    cases w
    · have : ((xs.length : Int) == (p.a.l.length : Int) + 1) = decide (xs.length = p.a.l.length + 1) := by
        by_cases q : xs.length = p.a.l.length + 1
        · simp [q]
        · have : ¬ ((xs.length : Int) = (p.a.l.length : Int) + 1) := by omega
          simp [q, this]
      simp [wI, Pn.d, Bt.d, rw', this]
    · have : ((ys.length : Int) == (p.b.l.length : Int) + 1) = decide (ys.length = p.b.l.length + 1) := by
        by_cases q : ys.length = p.b.l.length + 1
        · simp [q]
        · have : ¬ ((ys.length : Int) = (p.b.l.length : Int) + 1) := by omega
          simp [q, this]
      simp [wI, Pn.d, Bt.d, rw', this])
  simp only [wI, List.map_cons, List.map_nil, if_true, Bool.false_eq_true, if_false] at hc
  have od := r_order (k := 200) W0 W0 ((sx.mul h.sb).mono (by decide)) sW ((sy.mul h.sb).mono (by decide)) sW (by decide)
  have ee : xs.getLastD 0 * b * Wh p a b - ys.getLastD 0 * b * Wh p a b = (b * Wh p a b) * (xs.getLastD 0 - ys.getLastD 0) := by grind
  rw [ee, sg_mul (Int.mul_pos h.b0 W0)] at od
  change F_order.run [tm (Wh p a b) b (xs.getLastD 0), tm (Wh p a b) b (ys.getLastD 0)] = _ at od
  unfold homeV
  generalize xs.getLastD 0 = X at *
  generalize ys.getLastD 0 = Y at *
  by_cases c1 : xs.length = p.a.l.length + 1
  · by_cases c2 : ys.length = p.b.l.length + 1
    · simp only [c1, c2, decide_true, decide_false] at hc
      rcases Int.lt_trichotomy X Y with q | q | q
      · have : sg (X - Y) = -1 := by unfold sg; rw [if_neg (by omega), if_pos (by omega)]
        rw [this] at od
        simp [F_home_at, cl, hc, c1, c2, ixx, ixy, od, DV.intD, q, Int.ne_of_lt q]
      · subst q
        have : sg (X - X) = 0 := by rw [Int.sub_self]; rfl
        rw [this] at od
        simp [F_home_at, cl, hc, c1, c2, ixx, ixy, od, DV.intD]
      · have : sg (X - Y) = 1 := by unfold sg; rw [if_pos (by omega)]
        rw [this] at od
        have q2 : ¬ X = Y := by omega
        have q3 : ¬ X < Y := by omega
        simp [F_home_at, cl, hc, c1, c2, ixx, ixy, od, DV.intD, q2, q3]
    · simp only [c1, c2, decide_true, decide_false] at hc
      have e : idxF.f [.list [.bool true, .bool false]] = .ok (.int 0) := rfl
      simp [F_home_at, cl, hc, c1, c2, e]
  · by_cases c2 : ys.length = p.b.l.length + 1
    · simp only [c1, c2, decide_true, decide_false] at hc
      have e : idxF.f [.list [.bool false, .bool true]] = .ok (.int 1) := rfl
      simp [F_home_at, cl, hc, c1, c2, e]
    · simp only [c1, c2, decide_true, decide_false] at hc
      simp [F_home_at, cl, hc, c1, c2]
theorem r_law_home (h : Fl p a b) {xs ys : List Int} (k : Two p a b xs ys) (cl : F_law_clock.run [p.d, .tuple [.int a, .int b]] = .ok (.list [.list (isD xs), .list (isD ys)])) :
    F_law_home.run [p.d, .tuple [.int a, .int b]] = .ok (homeV p xs ys) := by
  have s := k.sm h
  have lx := lastD k.x.ne
  have ly := lastD k.y.ne
  have sx := (s.1 _ (List.mem_of_getLast? lx)).2
  have sy := (s.2 _ (List.mem_of_getLast? ly)).2
  have ixx : ixD (.list (isD xs)) (.int (-1)) = .ok (.int (xs.getLastD 0)) := ix_last (by unfold isD; rw [List.getLast?_map, lx]; rfl)
  have ixy : ixD (.list (isD ys)) (.int (-1)) = .ok (.int (ys.getLastD 0)) := ix_last (by unfold isD; rw [List.getLast?_map, ly]; rfl)
  have lnx : (isD xs).length = xs.length := by unfold isD; simp
  have lny : (isD ys).length = ys.length := by unfold isD; simp
  have hc := comp_t (i := 4) (f := .ite (.cmp .eq (.bi .len (.cons (.ix (.var 2) (.var 4)) .nil)) (.bin .add (.bi .len (.cons (.ix (.ix (.var 0) (.var 4)) (.cst (.int (2)))) .nil)) (.cst (.int (1))))) (.ix (.ix (.var 2) (.var 4)) (.neg (.cst (.int (1))))) (.neg (.cst (.int (1))))) (e := ⟨[.val p.d, .val (.tuple [.int a, .int b]), .val (.list [.list (isD xs), .list (isD ys)]), .no, .no], []⟩) (fun w : Bool => PyData.int (wI w)) (fun w => .int (if w = true then (if ys.length = p.b.l.length + 1 then ys.getLastD 0 else -1) else (if xs.length = p.a.l.length + 1 then xs.getLastD 0 else -1))) [false, true] rfl (by decide) (fun w _ => by
    cases w
    · by_cases q : xs.length = p.a.l.length + 1
      · simp [wI, Pn.d, Bt.d, lnx, ixx, q]
      · have : ¬ ((xs.length : Int) = (p.a.l.length : Int) + 1) := by omega
        simp [wI, Pn.d, Bt.d, lnx, ixx, q, this]
    · by_cases q : ys.length = p.b.l.length + 1
      · simp [wI, Pn.d, Bt.d, lny, ixy, q]
      · have : ¬ ((ys.length : Int) = (p.b.l.length : Int) + 1) := by omega
        simp [wI, Pn.d, Bt.d, lny, ixy, q, this])
  simp only [wI, List.map_cons, List.map_nil, if_true, Bool.false_eq_true, if_false] at hc
  unfold homeV
  generalize xs.getLastD 0 = X at *
  generalize ys.getLastD 0 = Y at *
  by_cases c1 : xs.length = p.a.l.length + 1
  · by_cases c2 : ys.length = p.b.l.length + 1
    · simp only [c1, c2, if_true] at hc
      have x1 : ¬ X = -1 := by omega
      have y1 : ¬ Y = -1 := by omega
      by_cases q : X = Y
      · subst q
        simp [F_law_home, cl, hc, c1, c2]
      · by_cases q2 : X < Y <;> simp [F_law_home, cl, hc, c1, c2, q, q2, x1, y1]
    · simp only [c1, c2, if_true, if_false] at hc
      have x1 : ¬ X = -1 := by omega
      simp [F_law_home, cl, hc, c1, c2, x1]
  · by_cases c2 : ys.length = p.b.l.length + 1
    · simp only [c1, c2, if_true, if_false] at hc
      have y1 : ¬ Y = -1 := by omega
      have y2 : ¬ -1 = Y := by omega
      simp [F_law_home, cl, hc, c1, c2, y1, y2]
    · simp only [c1, c2, if_false] at hc
      simp [F_law_home, cl, hc, c1, c2]
/-- the story -/
def storyV (p : Pn) (xs ys : List Int) (es : List Ent) : DV.D := .tuple [.tuple (es.map fun e => kS (decide (e.ah * e.be < 0))), homeV p xs ys]
theorem kinds_comp {xs ys : List Int} (es : List Ent) (hl : es.length ≤ 100) (P F : DV.D) : compL (asg (.cons (.name 2) (.cons (.name 3) .nil))) (ev .no).c (ev (.var 3)).v [2, 3] (es.map (outE p a b xs ys)) ⟨[.val P, .val F, .no, .no], []⟩ [] = .ok (es.map fun e => kS (decide (e.ah * e.be < 0)), ⟨[.val P, .val F, .no, .no], []⟩) := by
  have := comp_name2 (i := 2) (j := 3) (f := .var 3) (e := ⟨[.val P, .val F, .no, .no], []⟩) (fun e : Ent => fr (Pos p a b xs ys false e.m e.q) (Wh p a b * e.q)) (fun e => kS (decide (e.ah * e.be < 0))) (fun e => kS (decide (e.ah * e.be < 0))) es (by decide) rfl rfl (by omega) (fun e _ => by simp) [] (by simp; omega)
  rw [List.nil_append] at this
  exact this
theorem r_story_at (h : Fl p a b) {xs ys : List Int} (es : List Ent) (hl : es.length ≤ 100) (m : F_met.run [p.d, .tuple [.int a, .int b]] = .ok (.list (es.map (outE p a b xs ys)))) (hm : F_home_at.run [p.d, .tuple [.int a, .int b]] = .ok (homeV p xs ys)) :
    F_story_at.run [p.d, .tuple [.int a, .int b]] = .ok (storyV p xs ys es) := by
  have kc := kinds_comp (p := p) (a := a) (b := b) (xs := xs) (ys := ys) es hl p.d (.tuple [.int a, .int b])
  simp [F_story_at, m, kc, hm, tupleD, storyV]
theorem r_law_story (h : Fl p a b) {xs ys : List Int} (es : List Ent) (hl : es.length ≤ 100) (m : F_law_met.run [p.d, .tuple [.int a, .int b]] = .ok (.list (es.map (outE p a b xs ys)))) (hm : F_law_home.run [p.d, .tuple [.int a, .int b]] = .ok (homeV p xs ys)) :
    F_law_story.run [p.d, .tuple [.int a, .int b]] = .ok (storyV p xs ys es) := by
  have kc := kinds_comp (p := p) (a := a) (b := b) (xs := xs) (ys := ys) es hl p.d (.tuple [.int a, .int b])
  simp [F_law_story, m, kc, hm, tupleD, storyV]
theorem r_story (h : Fl p a b) {xs ys : List Int} (es : List Ent) (m : F_story_at.run [p.d, .tuple [.int a, .int b]] = .ok (storyV p xs ys es)) : F_story.run [p.d, .tuple [.int a, .int b]] = .ok (storyV p xs ys es) := by
  simp [F_story, need_both_ok h, m]
end
end K02
set_option Elab.async false
set_option linter.all false
set_option maxRecDepth 100000
set_option maxHeartbeats 4000000
namespace K02
open PySem PySem.Spec PyProof.Rows L2 DV DV.Pl
/-! places at some times -/
theorem ne_same {d : DV.D} {n : Nat} (h : Nc n d) (hn : n ≤ 64) : neD d d = .ok (.bool false) := by
  rw [neD_ok (h.shaped hn) (h.shaped hn), eqv_refl d h.lay]; rfl
theorem eq_same {d : DV.D} {n : Nat} (h : Nc n d) (hn : n ≤ 64) : eqD d d = .ok (.bool true) := by
  rw [eqD_ok (h.shaped hn) (h.shaped hn), eqv_refl d h.lay]
theorem nc_fr (n d : Int) : Nc 1 (fr n d) := nc2 _ _
theorem maxF_ints (l : List Int) (h : l ≠ []) : maxF.f [.list (isD l)] = .ok (.int (maxI l)) := by
  cases l with
  | nil => exact absurd rfl h
  | cons n l =>
    have key : maxLD [.list ((n :: l).map PyData.int)] = .ok (.int (maxI (n :: l))) := by
      unfold maxLD
      simp only
      rw [intsD_map]
    exact key
section
variable {p : Pn} {a b : Int}
theorem r_place_at (h : Fl p a b) {xs ys : List Int} (k : Two p a b xs ys) (cl : F_clocks.run [p.d, .tuple [.int a, .int b]] = .ok (.list [rw' p a b xs, rw' p a b ys])) (w : Bool) {T : Int} (T0 : 0 ≤ T) (sT : Sm 160 T) :
    F_place_at.run [p.d, .tuple [.int a, .int b], .int (wI w), tm (Wh p a b) b T] = .ok (fr (Pos p a b xs ys w T 1) (Wh p a b)) := by
  have W0 := h.bo.1.W0
  have th := r_then h k w T 1 (by decide) (sT.mono (by decide)) (by unfold Sm; decide)
  rw [Int.one_mul, Int.mul_one] at th
  change F_place_then.run [_, _, tm (Wh p a b) b T, _] = _ at th
  have nb := need_both_ok h
  have nn : F_need_number.run [.int (wI w), .int 0, .int 1] = .ok .none := by
    cases w with
    | false =>
      have := r_is_whole (.int 0) 0 1 (sh_int _)
      simp [F_need_number, this, wholeB, wI]
    | true =>
      have := r_is_whole (.int 1) 0 1 (sh_int _)
      simp [F_need_number, this, wholeB, wI]
  obtain ⟨g, x, y, g0, y0, e1, e2, cp, ef, _, ly⟩ := fr_parts (T * b) W0
  have ef : tm (Wh p a b) b T = .tuple [.int x, .int y] := ef
  have x0 : ¬ x < 0 := fun q => by
    have := Int.mul_neg_of_pos_of_neg g0 q
    have := Int.mul_nonneg T0 (Int.le_of_lt h.b0)
    omega
  have fc := r_is_fraction 140 x y (by decide) (h.bo.1.sW.le ly)
  rw [cp] at fc
  simp only [y0, decide_true, Bool.and_self] at fc
  rw [ef] at th ⊢
  cases w with
  | false =>
    simp only [Bool.false_eq_true, if_false] at th
    have pa : ixD p.d (.int 0) = .ok p.a.d := by simp [Pn.d]
    simp [wI] at nn ⊢
    simp [F_place_at, nb, nn, fc, x0, cl, pa, th]
  | true =>
    simp only [if_true] at th
    have pb : ixD p.d (.int 1) = .ok p.b.d := by simp [Pn.d]
    simp [wI] at nn ⊢
    simp [F_place_at, nb, nn, fc, x0, cl, pb, th]
theorem pr_turn (h : Fl p a b) {xs ys : List Int} (k : Two p a b xs ys) (cl : F_clocks.run [p.d, .tuple [.int a, .int b]] = .ok (.list [rw' p a b xs, rw' p a b ys])) (bag : List Int) (j : Slot) (s6 s7 s8 : Slot) (n6 : nb s6 = true) (n7 : nb s7 = true) (n8 : nb s8 = true) :
    ∃ bag' x6 x7 x8, evS B_law_place_right_1 ⟨[.bag (zs bag), .val p.d, .val (.tuple [.int a, .int b]), .val (rwI xs ys), .val (.int (Wh p a b)), j, s6, s7, s8], []⟩ = .next ⟨[.bag (zs bag'), .val p.d, .val (.tuple [.int a, .int b]), .val (rwI xs ys), .val (.int (Wh p a b)), j, .val x6, .val x7, .val x8], []⟩ := by
  have W0 := h.bo.1.W0
  have s := k.sm h
  have ne : xs ++ ys ≠ [] := fun z => k.x.ne (List.append_eq_nil_iff.mp z).1
  obtain ⟨m1, _⟩ := maxI_spec (xs ++ ys) ne
  have mb : Sm 150 (maxI (xs ++ ys)) ∧ 0 ≤ maxI (xs ++ ys) := by
    rcases List.mem_append.mp m1 with q | q
    · exact s.1 _ q
    · exact s.2 _ q
  have mf := maxF_ints (xs ++ ys) ne
  have eI : isD (xs ++ ys) = isD xs ++ isD ys := by simp [isD]
  rw [eI] at mf
  have l := k.lens h
  have ad := addL (isD xs) (isD ys) (by unfold isD; simp; omega)
  have t1 := r_law_take bag 2 (by decide)
  have r1 := take_lt (bag := bag) (m := 2) (by decide)
  obtain ⟨w, ew⟩ : ∃ w : Bool, (hd0 bag).fmod 2 = wI w := by
    rcases (by omega : (hd0 bag).fmod 2 = 0 ∨ (hd0 bag).fmod 2 = 1) with q | q
    · exact ⟨false, q⟩
    · exact ⟨true, q⟩
  rw [ew] at t1
  have t2 := r_law_take bag.tail (2 + maxI (xs ++ ys)) (by omega)
  have r2 := take_lt (bag := bag.tail) (m := 2 + maxI (xs ++ ys)) (by omega)
  generalize hT : (hd0 bag.tail).fmod (2 + maxI (xs ++ ys)) = T at t2 r2
  have sT : Sm 160 T := by
    have := mb.1
    unfold Sm at this ⊢
    have e : (2 : Nat) ^ 160 = 1024 * 2 ^ 150 := by decide
    rw [e]
    have : 0 < (2 : Nat) ^ 150 := Nat.pow_pos (by decide)
    generalize (2 : Nat) ^ 150 = Z at *
    omega
  have s1 : Sm 1 1 := by unfold Sm; decide
  have sP := Pos_sm h k w (K := 210) sT s1 (by decide) (by decide) (by decide)
  have lw1 := r_law_lowest (k := 400) (a := Pos p a b xs ys w T 1) (b := Wh p a b) (Int.ne_of_gt W0) (sP.mono (by decide)) (h.bo.1.sW.mono (by decide)) (by decide)
  rw [if_pos W0] at lw1
  have lw2 := r_law_lowest (k := 400) (a := T * b) (b := Wh p a b) (Int.ne_of_gt W0) ((sT.mul h.sb).mono (by decide)) (h.bo.1.sW.mono (by decide)) (by decide)
  rw [if_pos W0] at lw2
  change F_law_lowest.run _ = Out.ok (tm (Wh p a b) b T) at lw2
  have th : F_law_there.run [p.d, .tuple [.int a, .int b], rwI xs ys, .int (wI w), .int T] = .ok (.int (Pos p a b xs ys w T 1)) := by
    cases w with
    | false => exact r_there h k false T (sT.mono (by decide))
    | true => exact r_there h k true T (sT.mono (by decide))
  have pl := r_place_at h k cl w r2.1 sT
  have md := mulD_sm sT h.sb (by decide)
  have nq := ne_same (nc_fr (Pos p a b xs ys w T 1) (Wh p a b)) (by decide)
  have ix0 : ixD (rwI xs ys) (.int 0) = .ok (.list (isD xs)) := by simp [rwI]
  have ix1 : ixD (rwI xs ys) (.int 1) = .ok (.list (isD ys)) := by simp [rwI]
  refine ⟨bag.tail.tail, fr (Pos p a b xs ys w T 1) (Wh p a b), .int (wI w), .int T, ?_⟩
  generalize wI w = ww at *
  generalize fr (Pos p a b xs ys w T 1) (Wh p a b) = z at *
  simp [B_law_place_right_1, t1, putAny_s, ix0, ix1, ad, mf, t2, free_nb n6, free_nb n7, free_nb n8, th, lw1, md, lw2, pl, nq]
theorem pr_loop (h : Fl p a b) {xs ys : List Int} (k : Two p a b xs ys) (cl : F_clocks.run [p.d, .tuple [.int a, .int b]] = .ok (.list [rw' p a b xs, rw' p a b ys])) : ∀ (n : Nat) (j : Int) (bag : List Int) (s5 s6 s7 s8 : Slot), nb s5 = true → nb s6 = true → nb s7 = true → nb s8 = true →
    ∃ bag' t5 t6 t7 t8, eachS (asg (.name 5)) (evS B_law_place_right_1) (rngL j n) ⟨[.bag (zs bag), .val p.d, .val (.tuple [.int a, .int b]), .val (rwI xs ys), .val (.int (Wh p a b)), s5, s6, s7, s8], []⟩ = .next ⟨[.bag (zs bag'), .val p.d, .val (.tuple [.int a, .int b]), .val (rwI xs ys), .val (.int (Wh p a b)), t5, t6, t7, t8], []⟩
  | 0, j, bag, s5, s6, s7, s8, _, _, _, _ => ⟨bag, s5, s6, s7, s8, rfl⟩
  | n + 1, j, bag, s5, s6, s7, s8, n5, n6, n7, n8 => by
    obtain ⟨bag1, x6, x7, x8, t⟩ := pr_turn h k cl bag (.val (.int j)) s6 s7 s8 n6 n7 n8
    obtain ⟨bag', t5, t6, t7, t8, ih⟩ := pr_loop h k cl n (j + 1) bag1 (.val (.int j)) (.val x6) (.val x7) (.val x8) rfl rfl rfl rfl
    refine ⟨bag', t5, t6, t7, t8, ?_⟩
    show eachS _ _ (.int j :: rngL (j + 1) n) _ = _
    rw [each_cons]
    simp [free_nb n5, t]
    exact ih
theorem r_law_place_right (h : Fl p a b) {xs ys : List Int} (k : Two p a b xs ys) (cl : F_clocks.run [p.d, .tuple [.int a, .int b]] = .ok (.list [rw' p a b xs, rw' p a b ys])) (bag : List Int) :
    ∃ bag', F_law_place_right.runB (zs bag) [p.d, .tuple [.int a, .int b], rwI xs ys] = .ok (.bool true, zs bag') := by
  obtain ⟨bag', t5, t6, t7, t8, lp⟩ := pr_loop h k cl 4 0 bag .no .no .no .no rfl rfl rfl rfl
  have pc := r_law_paces h
  have rg := rngD_ok (n := 4) (by decide)
  rw [show ((4 : Nat) : Int) = 4 from rfl] at rg
  refine ⟨bag', ?_⟩
  simp [F_law_place_right, pc, rg, lp]
end
end K02
set_option Elab.async false
set_option linter.all false
set_option maxRecDepth 100000
set_option maxHeartbeats 4000000
namespace K02
open PySem PySem.Spec PyProof.Rows L2 DV DV.Pl
/-! what is refused -/
theorem err_plan : g_law_error (.err "InvalidPlan") = .ok (.str "plan value") := by kernel_rfl
theorem err_flow : g_law_error (.err "InvalidFlow") = .ok (.str "flow value") := by kernel_rfl
theorem err_number : g_law_error (.err "InvalidNumber") = .ok (.str "number value") := by kernel_rfl
theorem so_errs : PyData.strOk "plan value" = true ∧ PyData.strOk "flow value" = true ∧ PyData.strOk "number value" = true := by decide +kernel
section
variable {p : Pn}
theorem both_err (hp : p.ok = true) {o : DV.D} (h : F_is_below.run [o, .int (Pn.v p)] = .ok (.bool false)) : F_need_both.run [p.d, o] = .err "InvalidFlow" := by
  have h1 := r_need_plan p.d ((nc_pn p).mono (by decide))
  rw [if_pos (by rw [planB_d]; exact hp)] at h1
  simp [F_need_both, F_need_flow, h1, r_slowest, h]
theorem odd_flows (hp : p.ok = true) : ∀ o ∈ [.tuple [.int 0, .int 1], .tuple [.int 7, .int 1], .tuple [.int 2, .int 4], .none], F_is_below.run [o, .int (Pn.v p)] = .ok (.bool false) := by
  have v := Pn.v_ok hp
  have pair : ∀ a b : Int, b.natAbs < 2 ^ 10 → belowB (Pn.v p) a b = false → F_is_below.run [.tuple [.int a, .int b], .int (Pn.v p)] = .ok (.bool false) := fun a b hb h => by rw [r_is_below 10 a b _ (by decide) hb (by omega) (by decide), h]
  intro o ho
  simp only [List.mem_cons, List.not_mem_nil, or_false] at ho
  rcases ho with rfl | rfl | rfl | rfl
  · exact pair _ _ (by decide) (by simp [belowB])
  · exact pair _ _ (by decide) (by simp [belowB]; omega)
  · exact pair _ _ (by decide) (by simp [belowB, show ¬ Int.gcd 2 4 = 1 by decide])
  · simp [F_is_below, F_is_fraction]
theorem ref1_turn (hp : p.ok = true) {o : DV.D} (h : F_is_below.run [o, .int (Pn.v p)] = .ok (.bool false)) (s2 : Slot) (n2 : nb s2 = true) :
    ∃ t2, nb t2 = true ∧ evS B_law_refused_1 ⟨[.val p.d, .val o, s2], []⟩ = .next ⟨[.val p.d, .val o, t2], []⟩ := by
  have nb := both_err hp h
  have e1 : F_done_at.run [p.d, o] = .err "InvalidFlow" := by simp [F_done_at, nb]
  have e2 : F_meetings.run [p.d, o] = .err "InvalidFlow" := by simp [F_meetings, nb]
  have e3 : F_story.run [p.d, o] = .err "InvalidFlow" := by simp [F_story, nb]
  have e4 : F_place_at.run [p.d, o, .none, .none] = .err "InvalidFlow" := by simp [F_place_at, nb]
  have mu : mulD (.list [.str "flow value"]) (.int 4) = .ok (.list [.str "flow value", .str "flow value", .str "flow value", .str "flow value"]) := by
    unfold mulD
    simp only
    rw [if_pos (by simp)]
    rfl
  have nq := ne_same (d := .list [.str "flow value", .str "flow value", .str "flow value", .str "flow value"]) (n := 1) (nc_lst.mpr fun z hz => by
    simp at hz; subst hz; exact nc_str 0 so_errs.2.1) (by decide)
  refine ⟨.val (.list [.str "flow value", .str "flow value", .str "flow value", .str "flow value"]), rfl, ?_⟩
  simp [B_law_refused_1, e1, e2, e3, e4, err_flow, free_nb n2, mu, nq]
theorem ref1_loop (hp : p.ok = true) : ∀ (os : List DV.D), (∀ o ∈ os, F_is_below.run [o, .int (Pn.v p)] = .ok (.bool false)) → ∀ s1 s2, nb s1 = true → nb s2 = true → ∃ t1 t2, nb t1 = true ∧ nb t2 = true ∧ eachS (asg (.name 1)) (evS B_law_refused_1) os ⟨[.val p.d, s1, s2], []⟩ = .next ⟨[.val p.d, t1, t2], []⟩
  | [], _, s1, s2, n1, n2 => ⟨s1, s2, n1, n2, rfl⟩
  | o :: os, H, s1, s2, n1, n2 => by
    obtain ⟨t2, m2, t⟩ := ref1_turn hp (H o (by simp)) s2 n2
    obtain ⟨u1, u2, v1, v2, ih⟩ := ref1_loop hp os (fun x hx => H x (by simp [hx])) (.val o) t2 rfl m2
    refine ⟨u1, u2, v1, v2, ?_⟩
    rw [each_cons]
    simp [free_nb n1, t]
    exact ih
theorem ninth (hp : p.ok = true) : F_need_both.run [p.d, .tuple [.int 1, .int 9]] = .ok .none := by
  have v := Pn.v_ok hp
  have h1 := r_need_plan p.d ((nc_pn p).mono (by decide))
  rw [if_pos (by rw [planB_d]; exact hp)] at h1
  have h2 := r_is_below 10 1 9 (Pn.v p) (by decide) (by decide) (by omega) (by decide)
  have h3 : belowB (Pn.v p) 1 9 = true := by
    have : 1 < Pn.v p * 9 := by omega
    simp [belowB, this]
  rw [h3] at h2
  simp [F_need_both, F_need_flow, h1, r_slowest, h2]
theorem num_str : neD (.str "number value") (.str "number value") = .ok (.bool false) := ne_same (nc_str 0 so_errs.2.2) (by decide)
theorem ref2_loop (hp : p.ok = true) (s2 : Slot) : ∀ (os : List DV.D), (∀ o ∈ os, SeqAt.shaped o = true ∧ wholeB o 0 1 = false) → ∀ s1, nb s1 = true → ∃ t1, nb t1 = true ∧ eachS (asg (.name 1)) (evS B_law_refused_2) os ⟨[.val p.d, s1, s2], []⟩ = .next ⟨[.val p.d, t1, s2], []⟩
  | [], _, s1, n1 => ⟨s1, n1, rfl⟩
  | o :: os, H, s1, n1 => by
    have nb := ninth hp
    obtain ⟨h1, h2⟩ := H o (by simp)
    have wh := r_is_whole o 0 1 h1
    rw [h2] at wh
    have e : F_place_at.run [p.d, .tuple [.int 1, .int 9], o, .none] = .err "InvalidNumber" := by simp [F_place_at, F_need_number, nb, wh]
    obtain ⟨u1, v1, ih⟩ := ref2_loop hp s2 os (fun x hx => H x (by simp [hx])) (.val o) rfl
    refine ⟨u1, v1, ?_⟩
    rw [each_cons]
    simp [free_nb n1, B_law_refused_2, e, err_number, num_str]
    exact ih
theorem ref3_loop (hp : p.ok = true) (s2 : Slot) : ∀ (os : List DV.D), (∀ o ∈ os, F_place_at.run [p.d, .tuple [.int 1, .int 9], .int 0, o] = .err "InvalidNumber") → ∀ s1, nb s1 = true → ∃ t1, nb t1 = true ∧ eachS (asg (.name 1)) (evS B_law_refused_3) os ⟨[.val p.d, s1, s2], []⟩ = .next ⟨[.val p.d, t1, s2], []⟩
  | [], _, s1, n1 => ⟨s1, n1, rfl⟩
  | o :: os, H, s1, n1 => by
    have e := H o (by simp)
    obtain ⟨u1, v1, ih⟩ := ref3_loop hp s2 os (fun x hx => H x (by simp [hx])) (.val o) rfl
    refine ⟨u1, v1, ?_⟩
    rw [each_cons]
    simp [free_nb n1, B_law_refused_3, e, err_number, num_str]
    exact ih
theorem odd_times (hp : p.ok = true) : ∀ o ∈ [.tuple [.int (-1), .int 2], .tuple [.int 2, .int 4], .int 1, .none, .tuple [.int 1, .int 0]], F_place_at.run [p.d, .tuple [.int 1, .int 9], .int 0, o] = .err "InvalidNumber" := by
  have nb := ninth hp
  have nn : F_need_number.run [.int 0, .int 0, .int 1] = .ok .none := by
    have := r_is_whole (.int 0) 0 1 (sh_int _)
    simp [F_need_number, this, wholeB]
  have f1 := r_is_fraction 10 (-1) 2 (by decide) (by decide)
  have f2 := r_is_fraction 10 2 4 (by decide) (by decide)
  have f3 := r_is_fraction 10 1 0 (by decide) (by decide)
  rw [show (decide ((0 : Int) < 2) && decide (Int.gcd (-1) 2 = 1)) = true by decide] at f1
  rw [show (decide ((0 : Int) < 4) && decide (Int.gcd 2 4 = 1)) = false by decide] at f2
  rw [show (decide ((0 : Int) < 0) && decide (Int.gcd 1 0 = 1)) = false by decide] at f3
  intro o ho
  simp only [List.mem_cons, List.not_mem_nil, or_false] at ho
  rcases ho with rfl | rfl | rfl | rfl | rfl
  · simp [F_place_at, nb, nn, f1]
  · simp [F_place_at, nb, nn, f2]
  · simp [F_place_at, nb, nn, F_is_fraction]
  · simp [F_place_at, nb, nn, F_is_fraction]
  · simp [F_place_at, nb, nn, f3]
theorem r_law_refused (hp : p.ok = true) : F_law_refused.run [p.d] = .ok (.bool true) := by
  obtain ⟨t1, t2, m1, m2, l1⟩ := ref1_loop hp _ (odd_flows hp) .no .no rfl rfl
  obtain ⟨u1, v1, l2⟩ := ref2_loop hp t2 [.int 2, .int (-1), .bool true, .none] (fun o ho => by
    simp only [List.mem_cons, List.not_mem_nil, or_false] at ho
    rcases ho with rfl | rfl | rfl | rfl <;> simp [wholeB]) t1 m1
  obtain ⟨w1, x1, l3⟩ := ref3_loop hp t2 _ (odd_times hp) u1 v1
  have no : planB (.tuple [p.a.d]) = false := by
    cases e : planB (.tuple [p.a.d]) with
    | false => rfl
    | true =>
      obtain ⟨q, h, _⟩ := planB_some e
      have := congrArg (fun d : DV.D => match d with | .tuple l => l.length | _ => 0) h
      simp [Pn.d] at this
  have np := r_need_plan (.tuple [p.a.d]) ((nc_tup (n := 4).mpr fun z hz => by simp at hz; subst hz; exact (nc_bt _).mono (by decide)).mono (by decide))
  rw [if_neg (by rw [no]; decide)] at np
  have es : F_story.run [.tuple [p.a.d], .none] = .err "InvalidPlan" := by simp [F_story, F_need_both, np]
  have cu := cut_to [p.a.d, p.b.d] 1
  rw [show ((1 : Nat) : Int) = 1 from rfl] at cu
  have sl : sliceD p.d none (some 1) = .ok (.tuple [p.a.d]) := by
    unfold Pn.d; simp only [sliceD]; rw [cu]; rfl
  have eq : eqD (.str "plan value") (.str "plan value") = .ok (.bool true) := eq_same (nc_str 0 so_errs.1) (by decide)
  simp [F_law_refused, l1, l2, l3, sl, es, err_plan, eq]
end
end K02
set_option Elab.async false
set_option linter.all false
set_option maxRecDepth 100000
set_option maxHeartbeats 4000000
namespace K02
open PySem PySem.Spec PyProof.Rows L2 DV DV.Pl
/-! the law's turns -/
@[simp] theorem t_callB (x : Str) (f) (j : Nat) (es : E) (e : En) : (ev (.callB x f j es)).t e = ((ev (.callB x f j es)).v e).bind kT := (rfl)
section
variable {p : Pn} {a b : Int}
theorem nc_kS (c : Bool) : Nc 0 (kS c) := by cases c <;> exact nc_str 0 (by decide +kernel)
theorem nc_outE {xs ys : List Int} (e : Ent) : Nc 2 (outE p a b xs ys e) := nc_tup.mpr fun z hz => by
  simp at hz
  rcases hz with rfl | rfl
  · exact nc_fr _ _
  · exact (nc_kS _).mono (by decide)
theorem nc_homeV (p : Pn) (xs ys : List Int) : Nc 0 (homeV p xs ys) := by
  unfold homeV
  repeat' split
  all_goals first | exact nc_none 0 | exact nc_int 0 _
theorem nc_storyV {xs ys : List Int} (es : List Ent) : Nc 2 (storyV p xs ys es) := nc_tup.mpr fun z hz => by
  simp at hz
  rcases hz with rfl | rfl
  · exact nc_tup.mpr fun x hx => by
      obtain ⟨e, _, rfl⟩ := List.mem_map.mp hx
      exact nc_kS _
  · exact (nc_homeV _ _ _).mono (by decide)
/-- all that is told at a flow is as the law has it -/
structure Told (p : Pn) (a b : Int) (xs ys : List Int) (es : List Ent) : Prop where
  k : Two p a b xs ys
  clk : F_clocks.run [p.d, .tuple [.int a, .int b]] = .ok (.list [rw' p a b xs, rw' p a b ys])
  lclk : F_law_clock.run [p.d, .tuple [.int a, .int b]] = .ok (rwI xs ys)
  met : F_meetings.run [p.d, .tuple [.int a, .int b]] = .ok (.list (es.map (outE p a b xs ys)))
  lmet : F_law_met.run [p.d, .tuple [.int a, .int b]] = .ok (.list (es.map (outE p a b xs ys)))
  story : F_story.run [p.d, .tuple [.int a, .int b]] = .ok (storyV p xs ys es)
  lstory : F_law_story.run [p.d, .tuple [.int a, .int b]] = .ok (storyV p xs ys es)
theorem told (h : Fl p a b) : ∃ xs ys es, Told p a b xs ys es := by
  obtain ⟨xs, ys, fi, c1, c2⟩ := r_clocks h
  obtain ⟨es, _, l, e, lm⟩ := r_law_met h fi.two c2
  have m := r_met h fi.two c1
  rw [e] at m
  have h1 := r_home_at h fi.two c1
  have h2 := r_law_home h fi.two c2
  exact ⟨xs, ys, es, fi.two, c1, c2, r_meetings h _ m, lm, r_story h es (r_story_at h es l m h1), r_law_story h es l lm h2⟩
theorem due_comp (h : Fl p a b) {xs : List Int} (sx : ∀ x ∈ xs, Sm 150 x) (S K s2 B P J u7 u8 u10 : Slot) (hl : xs.length ≤ 1000) :
    compL (asg (.name 11)) (ev .no).c (ev (.call "_law_lowest" F_law_lowest.run (.cons (.bin .mul (.var 11) (.ix (.var 6) (.cst (.int (1))))) (.cons (.var 9) .nil)))).v [11] ((xs.drop 1).map PyData.int) ⟨[S, K, s2, B, P, J, .val (.tuple [.int a, .int b]), u7, u8, .val (.int (Wh p a b)), u10, .no], []⟩ []
      = .ok ((xs.drop 1).map (tm (Wh p a b) b), ⟨[S, K, s2, B, P, J, .val (.tuple [.int a, .int b]), u7, u8, .val (.int (Wh p a b)), u10, .no], []⟩) := by
  have W0 := h.bo.1.W0
  refine comp_t PyData.int (tm (Wh p a b) b) (xs.drop 1) rfl (by rw [List.length_drop]; omega) fun T hT => ?_
  have sT := sx T (List.mem_of_mem_drop hT)
  have md := mulD_sm sT h.sb (by decide)
  have lw := r_law_lowest (k := 400) (a := T * b) (b := Wh p a b) (Int.ne_of_gt W0) ((sT.mul h.sb).mono (by decide)) (h.bo.1.sW.mono (by decide)) (by decide)
  rw [if_pos W0] at lw
  change F_law_lowest.run _ = Out.ok (tm (Wh p a b) b T) at lw
  simp [md, lw]
theorem due_loop (h : Fl p a b) {xs ys : List Int} (k : Two p a b xs ys) (S K s2 B P J u8 u10 : Slot) (n8 : nb u8 = true) :
    eachS (asg (.name 8)) (evS B_law_1) [.list (isD xs), .list (isD ys)] ⟨[S, K, s2, B, P, J, .val (.tuple [.int a, .int b]), .own [], u8, .val (.int (Wh p a b)), u10, .no], []⟩
      = .next ⟨[S, K, s2, B, P, J, .val (.tuple [.int a, .int b]), .own [.list ((xs.drop 1).map (tm (Wh p a b) b)), .list ((ys.drop 1).map (tm (Wh p a b) b))], .val (.list (isD ys)), .val (.int (Wh p a b)), u10, .no], []⟩ := by
  have s := k.sm h
  have l := k.lens h
  have turn : ∀ (zs : List Int) (fo : List DV.D), (∀ z ∈ zs, Sm 150 z) → zs.length ≤ 1000 → fo.length < 100 → evS B_law_1 ⟨[S, K, s2, B, P, J, .val (.tuple [.int a, .int b]), .own fo, .val (.list (isD zs)), .val (.int (Wh p a b)), u10, .no], []⟩ = .next ⟨[S, K, s2, B, P, J, .val (.tuple [.int a, .int b]), .own (fo ++ [.list ((zs.drop 1).map (tm (Wh p a b) b))]), .val (.list (isD zs)), .val (.int (Wh p a b)), u10, .no], []⟩ := fun zs fo sz hl hf => by
    have dc := due_comp h (xs := zs) sz S K s2 B P J (.own fo) (.val (.list (isD zs))) u10 hl
    have sl := sl_from (isD zs) 1
    rw [show ((1 : Nat) : Int) = 1 from rfl] at sl
    have e : (isD zs).drop 1 = (zs.drop 1).map PyData.int := by unfold isD; rw [List.map_drop]
    rw [e] at sl
    have hf2 : fo.length < 16777216 := by omega
    generalize zs.drop 1 = ws at *
    generalize ws.map (tm (Wh p a b) b) = wt at *
    generalize ws.map PyData.int = wi at *
    simp [B_law_1, sl, dc, hf2]
  have t1 := turn xs [] (fun x hx => (s.1 x hx).1) (by omega) (by decide)
  have t2 := turn ys [.list ((xs.drop 1).map (tm (Wh p a b) b))] (fun x hx => (s.2 x hx).1) (by omega) (by simp only [List.length_singleton]; omega)
  simp only [List.nil_append, List.singleton_append] at t1 t2
  generalize (xs.drop 1).map (tm (Wh p a b) b) = dx at *
  generalize (ys.drop 1).map (tm (Wh p a b) b) = dy at *
  rw [each_cons]
  simp [free_nb n8, t1]
  rw [each_cons]
  simp [t2]
theorem flow_turn (hp : p.ok = true) (bag : List Int) (S K s2 J s6 s7 s8 s9 s10 : Slot) (n6 : nb s6 = true) (n7 : nb s7 = true) (n8 : nb s8 = true) (n9 : nb s9 = true) (n10 : nb s10 = true) :
    ∃ bag' x6 x7 x8 x9 x10, evS B_law_2 ⟨[S, K, s2, .own (zs bag), .val p.d, J, s6, s7, s8, s9, s10, .no], []⟩ = .next ⟨[S, K, s2, .own (zs bag'), .val p.d, J, .val x6, .val x7, .val x8, .val x9, .val x10, .no], []⟩ := by
  obtain ⟨a, b, bag1, hb, hlt, mx⟩ := r_law_mixed bag p hp
  have h := Fl.of hp hb hlt
  obtain ⟨xs, ys, es, t⟩ := told h
  have da := r_done_at h t.k t.clk
  obtain ⟨bag2, pr⟩ := r_law_place_right h t.k t.clk bag1
  have pc := r_law_paces h
  have dl := due_loop h t.k S K s2 (.own (zs bag1)) (.val p.d) J s8 (.val (rwI xs ys)) n8
  have n1 : neD (.tuple [.list ((xs.drop 1).map (tm (Wh p a b) b)), .list ((ys.drop 1).map (tm (Wh p a b) b))]) (.tuple [.list ((xs.drop 1).map (tm (Wh p a b) b)), .list ((ys.drop 1).map (tm (Wh p a b) b))]) = .ok (.bool false) := by
    have g : ∀ l : List Int, Nc 2 (.list (l.map (tm (Wh p a b) b))) := fun l => nc_lst.mpr fun z hz => by
      obtain ⟨T, _, rfl⟩ := List.mem_map.mp hz
      exact nc_fr _ _
    exact ne_same (n := 3) (nc_tup.mpr fun z hz => by
      simp only [List.mem_cons, List.not_mem_nil, or_false] at hz
      rcases hz with rfl | rfl
      · exact g _
      · exact g _) (by decide)
  have n2 : neD (.list (es.map (outE p a b xs ys))) (.list (es.map (outE p a b xs ys))) = .ok (.bool false) := ne_same (n := 3) (nc_lst.mpr fun z hz => by
    obtain ⟨T, _, rfl⟩ := List.mem_map.mp hz
    exact nc_outE _) (by decide)
  have n3 : neD (storyV p xs ys es) (storyV p xs ys es) = .ok (.bool false) := ne_same (nc_storyV es) (by decide)
  have lc := t.lclk
  have e1 := t.met
  have e2 := t.lmet
  have e3 := t.story
  have e4 := t.lstory
  have it : itemsD (rwI xs ys) = .ok [.list (isD xs), .list (isD ys)] := rfl
  refine ⟨bag2, .tuple [.int a, .int b], .list [.list ((xs.drop 1).map (tm (Wh p a b) b)), .list ((ys.drop 1).map (tm (Wh p a b) b))], .list (isD ys), .int (Wh p a b), rwI xs ys, ?_⟩
  generalize (xs.drop 1).map (tm (Wh p a b) b) = dx at *
  generalize (ys.drop 1).map (tm (Wh p a b) b) = dy at *
  generalize es.map (outE p a b xs ys) = ms at *
  generalize storyV p xs ys es = st at *
  simp [B_law_2, mx, putAny_s, free_nb n6, pc, lc, free_nb n7, free_nb n9, free_nb n10, it, dl, da, n1, e1, e2, n2, e3, e4, n3, pr]
theorem flow_loop (hp : p.ok = true) (S K s2 : Slot) : ∀ (n : Nat) (j : Int) (bag : List Int) (s5 s6 s7 s8 s9 s10 : Slot), nb s5 = true → nb s6 = true → nb s7 = true → nb s8 = true → nb s9 = true → nb s10 = true →
    ∃ bag' t5 t6 t7 t8 t9 t10, nb t5 = true ∧ nb t6 = true ∧ nb t7 = true ∧ nb t8 = true ∧ nb t9 = true ∧ nb t10 = true ∧ eachS (asg (.name 5)) (evS B_law_2) (rngL j n) ⟨[S, K, s2, .own (zs bag), .val p.d, s5, s6, s7, s8, s9, s10, .no], []⟩ = .next ⟨[S, K, s2, .own (zs bag'), .val p.d, t5, t6, t7, t8, t9, t10, .no], []⟩
  | 0, j, bag, s5, s6, s7, s8, s9, s10, n5, n6, n7, n8, n9, n10 => ⟨bag, s5, s6, s7, s8, s9, s10, n5, n6, n7, n8, n9, n10, rfl⟩
  | n + 1, j, bag, s5, s6, s7, s8, s9, s10, n5, n6, n7, n8, n9, n10 => by
    obtain ⟨bag1, x6, x7, x8, x9, x10, t⟩ := flow_turn hp bag S K s2 (.val (.int j)) s6 s7 s8 s9 s10 n6 n7 n8 n9 n10
    obtain ⟨bag', t5, t6, t7, t8, t9, t10, m5, m6, m7, m8, m9, m10, ih⟩ := flow_loop hp S K s2 n (j + 1) bag1 (.val (.int j)) (.val x6) (.val x7) (.val x8) (.val x9) (.val x10) rfl rfl rfl rfl rfl rfl
    refine ⟨bag', t5, t6, t7, t8, t9, t10, m5, m6, m7, m8, m9, m10, ?_⟩
    show eachS _ _ (.int j :: rngL (j + 1) n) _ = _
    rw [each_cons]
    simp [free_nb n5, t]
    exact ih
end
theorem law_turn (S : DV.D) (ns : List Int) (hS : S = scr (zs ns)) (k : Int) (k0 : 0 ≤ k) (k1 : k < 1000) (s2 s3 s4 s5 s6 s7 s8 s9 s10 : Slot) (h3 : nb s3 = true) (h4 : nb s4 = true) (h5 : nb s5 = true) (h6 : nb s6 = true) (h7 : nb s7 = true) (h8 : nb s8 = true) (h9 : nb s9 = true) (h10 : nb s10 = true) :
    ∃ t3 t4 t5 t6 t7 t8 t9 t10, nb t3 = true ∧ nb t4 = true ∧ nb t5 = true ∧ nb t6 = true ∧ nb t7 = true ∧ nb t8 = true ∧ nb t9 = true ∧ nb t10 = true ∧
      evS B_law_3 ⟨[.val S, .val (.int k), s2, s3, s4, s5, s6, s7, s8, s9, s10, .no], []⟩ = .next ⟨[.val S, .val (.int k), s2, t3, t4, t5, t6, t7, t8, t9, t10, .no], []⟩ := by
  obtain ⟨bag, _, e1⟩ := r_law_bag ns k k0 k1
  rw [← hS] at e1
  obtain ⟨p, bag1, hp, _, _, e2⟩ := r_law_plan bag
  obtain ⟨bag2, t5, t6, t7, t8, t9, t10, m5, m6, m7, m8, m9, m10, lp⟩ := flow_loop hp (.val S) (.val (.int k)) s2 7 0 bag1 s5 s6 s7 s8 s9 s10 h5 h6 h7 h8 h9 h10
  have r7 := rngD_ok (n := 7) (by decide)
  rw [show ((7 : Nat) : Int) = 7 from rfl] at r7
  have rf := r_law_refused hp
  refine ⟨.own (zs bag2), .val p.d, t5, t6, t7, t8, t9, t10, rfl, rfl, m5, m6, m7, m8, m9, m10, ?_⟩
  simp [B_law_3, e1, free_nb h3, e2, putAny_s, free_nb h4, r7, lp, rf]
theorem law_loop (S : DV.D) (ns : List Int) (hS : S = scr (zs ns)) (s2 : Slot) : ∀ (n : Nat) (k : Int), 0 ≤ k → k + n ≤ 1000 → ∀ (s1 s3 s4 s5 s6 s7 s8 s9 s10 : Slot), nb s1 = true → nb s3 = true → nb s4 = true → nb s5 = true → nb s6 = true → nb s7 = true → nb s8 = true → nb s9 = true → nb s10 = true →
    ∃ t1 t3 t4 t5 t6 t7 t8 t9 t10, eachS (asg (.name 1)) (evS B_law_3) (rngL k n) ⟨[.val S, s1, s2, s3, s4, s5, s6, s7, s8, s9, s10, .no], []⟩ = .next ⟨[.val S, t1, s2, t3, t4, t5, t6, t7, t8, t9, t10, .no], []⟩
  | 0, k, _, _, s1, s3, s4, s5, s6, s7, s8, s9, s10, _, _, _, _, _, _, _, _, _ => ⟨s1, s3, s4, s5, s6, s7, s8, s9, s10, rfl⟩
  | n + 1, k, k0, k1, s1, s3, s4, s5, s6, s7, s8, s9, s10, h1, h3, h4, h5, h6, h7, h8, h9, h10 => by
    obtain ⟨t3, t4, t5, t6, t7, t8, t9, t10, a3, a4, a5, a6, a7, a8, a9, a10, t⟩ := law_turn S ns hS k k0 (by omega) s2 s3 s4 s5 s6 s7 s8 s9 s10 h3 h4 h5 h6 h7 h8 h9 h10
    obtain ⟨u1, u3, u4, u5, u6, u7, u8, u9, u10, ih⟩ := law_loop S ns hS s2 n (k + 1) (by omega) (by omega) (.val (.int k)) t3 t4 t5 t6 t7 t8 t9 t10 rfl a3 a4 a5 a6 a7 a8 a9 a10
    refine ⟨u1, u3, u4, u5, u6, u7, u8, u9, u10, ?_⟩
    show eachS _ _ (.int k :: rngL (k + 1) n) _ = _
    rw [each_cons]
    simp [free_nb h1, t]
    exact ih
end K02
set_option Elab.async false
set_option linter.all false
set_option maxRecDepth 100000
set_option maxHeartbeats 4000000
namespace K02
open PySem PySem.Spec PyProof.Rows L2 DV DV.Pl
def exD : DV.D := .tuple [.tuple [.int 3, .int 0, .tuple [.tuple [.str "to", .int 3], .tuple [.str "to", .int 0]]], .tuple [.int 2, .int 0, .tuple [.tuple [.str "to", .int 3]]]]
def exM : DV.D := .list [.tuple [.tuple [.int 0, .int 1], .str "touch"], .tuple [.tuple [.int 9, .int 5], .str "pass"]]
def exT : DV.D := .tuple [.list [.tuple [.int 3, .int 2], .tuple [.int 9, .int 4]], .list [.tuple [.int 3, .int 1]]]
def exS (i : Int) : DV.D := .tuple [.tuple [.str "touch", .str "pass"], .int i]
theorem ex1 : F_meetings.run [exD, .tuple [.int 1, .int 1]] = .ok exM := by kernel_rfl
theorem ex2 : F_done_at.run [exD, .tuple [.int 1, .int 1]] = .ok exT := by kernel_rfl
theorem ex3 : F_place_at.run [exD, .tuple [.int 1, .int 1], .int 0, .tuple [.int 2, .int 1]] = .ok (.tuple [.int 1, .int 1]) := by kernel_rfl
theorem ex4 : F_story.run [exD, .tuple [.int 1, .int 2]] = .ok (exS 1) := by kernel_rfl
theorem ex5 : F_story.run [exD, .tuple [.int 1, .int 1]] = .ok (exS 0) := by kernel_rfl
theorem nqM : neD exM exM = .ok (.bool false) := by kernel_rfl
theorem nqT : neD exT exT = .ok (.bool false) := by kernel_rfl
theorem nq1 : neD (.tuple [.int 1, .int 1]) (.tuple [.int 1, .int 1]) = .ok (.bool false) := by kernel_rfl
theorem eqS (i : Int) : eqD (exS i) (exS i) = .ok (.bool true) := eq_same (n := 2) (nc_tup.mpr fun z hz => by
  simp at hz
  rcases hz with rfl | rfl
  · exact nc_tup.mpr fun x hx => by
      simp at hx
      rcases hx with rfl | rfl <;> exact nc_str 0 (by decide +kernel)
  · exact nc_int _ _) (by decide)
theorem plain (ns : List Int) (hl : ns.length ≤ 64) (hb : ∀ z ∈ ns, Builtin.Int.intBits z ≤ 1048576) : F_law.run [scr (ns.map .int)] = .ok (.bool true) := by
  obtain ⟨t1, t3, t4, t5, t6, t7, t8, t9, t10, lp⟩ := law_loop (scr (zs ns)) ns rfl .no 6 0 (by decide) (by decide) .no .no .no .no .no .no .no .no .no rfl rfl rfl rfl rfl rfl rfl rfl rfl
  have r6 := rngD_ok (n := 6) (by decide)
  rw [show ((6 : Nat) : Int) = 6 from rfl] at r6
  have e1 := ex1
  have e2 := ex2
  have e3 := ex3
  have e4 := ex4
  have e5 := ex5
  have n1 := nqM
  have n2 := nqT
  have s0 := eqS 0
  have s1 := eqS 1
  unfold exD exM at e1
  unfold exD exT at e2
  unfold exD at e3 e4 e5
  unfold exM at n1
  unfold exT at n2
  unfold exS at s0 s1 e4 e5
  have e : scr (ns.map PyData.int) = scr (zs ns) := rfl
  rw [e]
  simp [F_law, r6, lp, e1, e2, e3, e4, e5, n1, n2, nq1, s0, s1]
end K02
set_option Elab.async false
set_option linter.all false
set_option maxRecDepth 1000000
set_option maxHeartbeats 8000000
open PySem PySem.W PySem.Calls PyProof.Rows
theorem PySem.Challenge.cw_anystream_k02_whole_boats_at_told_flows_holds : PySem.Challenge.rw_anystream_k02_whole_boats_at_told_flows.Holds := by
  w_on; o_law
  refine HandSHeadRun.head_any (r := OpenLaw.row PySem.Challenge.rw_anystream_k02_whole_boats_at_told_flows) (q := view (OpenLaw.row PySem.Challenge.rw_anystream_k02_whole_boats_at_told_flows).prog [71]) (H := K02.hk) (ob := K02.ob) (M := 8000) (loose := K02.loose) (d := HandSHeadRun.topDef (OpenLaw.row PySem.Challenge.rw_anystream_k02_whole_boats_at_told_flows).prog 71) (kwd := []) K02.ob_eq
    (by kernel_rfl) (fun s => by kernel_rfl) K02.run (by kernel_rfl) (by kernel_rfl) (by kernel_rfl) (by rfl) (by first | assumption | decide +kernel) (by decide +kernel) ⟨rfl, rfl, rfl, rfl, rfl, by decide +kernel⟩ ?hw ?hc
  case hw => w_witness2
  case hc =>
    refine LamX.walk_ofTsE (l := PySem.Challenge.rw_anystream_k02_whole_boats_at_told_flows) (n := 63) (k := 13) (x := "_law_script") (CX := fun w => L2N.CX (PySem.Challenge.rw_anystream_k02_whole_boats_at_told_flows).prog w) rfl (by decide) (by kernel_rfl) ⟨rfl, by decide, by decide⟩ ?F ?hcx
    case F =>
      intro w mg fa h Y G hmg0
      obtain ⟨K, KX, c⟩ := Y
      have hmg : mg ("law" : PySem.Str) = some (.ref fa) := by
        have e : (HandSHeadRun.topDef (OpenLaw.row PySem.Challenge.rw_anystream_k02_whole_boats_at_told_flows).prog 71).name = ("law" : PySem.Str) := by kernel_rfl
        rw [← e]
        exact hmg0
      have more := c.more
      have hE := (Bool.and_eq_true_iff.mp more).1
      have hD := (Bool.and_eq_true_iff.mp more).2
      exact ⟨K, KX, DV.law_at (a := fa) (a' := "_law_script") KX (by decide) c G hmg K02.d_law rfl (fun x hx => K02.frees x hx) K02.plain (lm := false) (fun z => by first | exact List.mem_of_getElem? (i := 0) rfl | cases z) hD rfl rfl K02.b_law
        fun gd hP hK hM hT m tb => K02.o_law m (by rw [hK]; exact hE) (by rw [hT, hK]) (by rw [hK]; exact hD) (by rw [hM, hK]; exact tb)⟩
    case hcx =>
      intro w H s e s' h
      obtain ⟨_, _, _, _, _, _, _, _, _, _, _, _, z⟩ := h
      exact z
