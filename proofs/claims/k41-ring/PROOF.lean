import PyProof.Rows.All
import Wide.All
import OpenK.AllK
import Wide.FinOn
import HandS.ForMost
import HandS.Wide
import HandS.IsInst
import HandS.TryMany
import HandS.Exc
import HandS.TryOnly
import HandS.ExcOwn
import HandS.WordsExc
import HandS.CallLocal
import HandS.CallSlots
import HandS.TupAny
import HandS.TupLe
import HandS.TupMul
import HandS.Conv
import HandS.Deep
import HandS.Rev
import HandS.Zip
import HandS.Flow
import HandS.HeadHook2
import HandS.Head2
import HandS.HeadEnd
import HandS.Defaults
import HandS.Style
import HandS.ExcField
import HandS.Codes
import HandS.HeadHook4
import HandS.HeadWalk
import PySem.Challenge.RW_radixroads_k41_whole_people_in_a_ring
import HandS.Head4
import HandS.Head3
set_option Elab.async false
set_option linter.all false
set_option maxRecDepth 100000
set_option maxHeartbeats 0
/-! Data without addresses, and what it means that a value stands for a datum in an abstract heap. -/
namespace Pd
open L2 PyProof.Rows PySem.Spec PySem

/-- data: Python's values without addresses; frz: a list that nobody changes -/
inductive D where
  | non
  | bl (b : Bool)
  | int (i : Int)
  | str (s : Str)
  | tup (xs : List D)
  | lst (xs : List D)
  | frz (xs : List D)
  | dk (ks : List Key) (vs : List D)
  | fn (n : Nat)
  | ins (c : Nat) (vs : List D)
  deriving Inhabited

/-- the written world: names of defs and classes by number, fields of classes -/
structure RC where
  K : PySem.W.Frag
  mg : Str → Option Value
  fnm : Nat → Str
  cnm : Nat → Str
  fld : Nat → List Str

mutual
inductive Rep (R : RC) (H : Hp) : V → D → Prop
  | non : Rep R H .non .non
  | bl (b : Bool) : Rep R H (.bl b) (.bl b)
  | int (i : Int) : Rep R H (.int i) (.int i)
  | str (s : Str) : Rep R H (.str s) (.str s)
  | tup {a : Addr} {vs : List V} {ds : List D} : SqT R.K H a vs → Reps R H vs ds → Rep R H (.ref a) (.tup ds)
  | lst {a : Addr} {vs : List V} {ds : List D} : H a = some (.lst vs) → Reps R H vs ds → Rep R H (.ref a) (.lst ds)
  | frz {a : Addr} {vs : List V} {ds : List D} : SqL R.K H a vs → Reps R H vs ds → Rep R H (.ref a) (.frz ds)
  | dk {a : Addr} {kvs : List (Key × V)} {ds : List D} : H a = some (.dK kvs) → Reps R H (kvs.map (·.2)) ds → Rep R H (.ref a) (.dk (kvs.map (·.1)) ds)
  | fn {a : Addr} (n : Nat) : R.mg (R.fnm n) = some (.ref a) → Rep R H (.ref a) (.fn n)
  | ins {a C dx : Addr} {fs : List (Str × V)} {c : Nat} {ds : List D} : H a = some (.ins C dx fs) → R.mg (R.cnm c) = some (.ref C) → fs.map (·.1) = R.fld c →
      Reps R H (fs.map (·.2)) ds → Rep R H (.ref a) (.ins c ds)
inductive Reps (R : RC) (H : Hp) : List V → List D → Prop
  | nil : Reps R H [] []
  | cons {v : V} {d : D} {vs : List V} {ds : List D} : Rep R H v d → Reps R H vs ds → Reps R H (v :: vs) (d :: ds)
end

section
variable {R : RC} {H H' : Hp}
theorem sqT_mono {K : PySem.W.Frag} {a : Addr} {xs : List V} (e : Same H H') (h : SqT K H a xs) : SqT K H' a xs := by
  rcases h with (h | ⟨o, h⟩) | h
  · exact .inl (.inl (e _ _ h))
  · exact .inl (.inr ⟨o, e _ _ h⟩)
  · exact .inr h
mutual
theorem Rep.mono (e : Same H H') : ∀ {v : V} {d : D}, Rep R H v d → Rep R H' v d
  | _, _, .non => .non
  | _, _, .bl b => .bl b
  | _, _, .int i => .int i
  | _, _, .str s => .str s
  | _, _, .tup h r => .tup (sqT_mono e h) (Reps.mono e r)
  | _, _, .lst h r => .lst (e _ _ h) (Reps.mono e r)
  | _, _, .frz h r => .frz (e.seq h) (Reps.mono e r)
  | _, _, .dk h r => .dk (e _ _ h) (Reps.mono e r)
  | _, _, .fn n h => .fn n h
  | _, _, .ins h c f r => .ins (e _ _ h) c f (Reps.mono e r)
theorem Reps.mono (e : Same H H') : ∀ {vs : List V} {ds : List D}, Reps R H vs ds → Reps R H' vs ds
  | _, _, .nil => .nil
  | _, _, .cons r t => .cons (Rep.mono e r) (Reps.mono e t)
end
theorem Reps.length : ∀ {vs : List V} {ds : List D}, Reps R H vs ds → vs.length = ds.length
  | _, _, .nil => rfl
  | _, _, .cons _ t => congrArg (· + 1) (Reps.length t)
theorem Reps.get : ∀ {vs : List V} {ds : List D} {i : Nat} {v : V}, Reps R H vs ds → vs[i]? = some v → ∃ d, ds[i]? = some d ∧ Rep R H v d
  | _, _, 0, _, .cons r _, e => ⟨_, rfl, by cases e; exact r⟩
  | _, _, i + 1, _, .cons _ t, e => Reps.get (i := i) t e
theorem Reps.getD : ∀ {vs : List V} {ds : List D} {i : Nat} {d : D}, Reps R H vs ds → ds[i]? = some d → ∃ v, vs[i]? = some v ∧ Rep R H v d
  | _, _, 0, _, .cons r _, e => ⟨_, rfl, by cases e; exact r⟩
  | _, _, i + 1, _, .cons _ t, e => Reps.getD (i := i) t e
theorem Reps.append : ∀ {vs us : List V} {ds es : List D}, Reps R H vs ds → Reps R H us es → Reps R H (vs ++ us) (ds ++ es)
  | _, _, _, _, .nil, s => s
  | _, _, _, _, .cons r t, s => .cons r (Reps.append t s)
theorem Reps.take : ∀ {vs : List V} {ds : List D} (n : Nat), Reps R H vs ds → Reps R H (vs.take n) (ds.take n)
  | _, _, 0, _ => .nil
  | _, _, _ + 1, .nil => .nil
  | _, _, n + 1, .cons r t => .cons r (Reps.take n t)
theorem Reps.drop : ∀ {vs : List V} {ds : List D} (n : Nat), Reps R H vs ds → Reps R H (vs.drop n) (ds.drop n)
  | _, _, 0, r => r
  | _, _, _ + 1, .nil => .nil
  | _, _, n + 1, .cons _ t => Reps.drop n t
theorem Reps.set {v : V} {d : D} (r : Rep R H v d) : ∀ {vs : List V} {ds : List D} (n : Nat), Reps R H vs ds → Reps R H (vs.set n v) (ds.set n d)
  | _, _, _, .nil => .nil
  | _, _, 0, .cons _ t => .cons r t
  | _, _, n + 1, .cons q t => .cons q (Reps.set r n t)
theorem Reps.reverse : ∀ {vs : List V} {ds : List D}, Reps R H vs ds → Reps R H vs.reverse ds.reverse
  | _, _, .nil => .nil
  | _, _, .cons r t => by
    rw [List.reverse_cons, List.reverse_cons]
    exact (Reps.reverse t).append (.cons r .nil)
theorem Reps.dropLast {vs : List V} {ds : List D} (r : Reps R H vs ds) : Reps R H vs.dropLast ds.dropLast := by
  rw [List.dropLast_eq_take, List.dropLast_eq_take, r.length]
  exact r.take _
theorem Reps.rep {vs : List V} {ds : List D} (r : Reps R H vs ds) : ∀ k : Nat, Reps R H (List.replicate k vs).flatten (List.replicate k ds).flatten
  | 0 => .nil
  | k + 1 => by
    rw [List.replicate_succ, List.replicate_succ, List.flatten_cons, List.flatten_cons]
    exact r.append (Reps.rep r k)
theorem Reps.ints : ∀ {vs : List V} {ns : List Int}, Reps R H vs (ns.map D.int) → vs = ns.map V.int
  | _, [], .nil => rfl
  | _, n :: ns, .cons (.int _) t => congrArg (V.int n :: ·) (Reps.ints t)
theorem Reps.of_ints : ∀ {ns : List Int}, Reps R H (ns.map V.int) (ns.map D.int)
  | [] => .nil
  | n :: _ => .cons (.int n) Reps.of_ints
theorem Reps.strs : ∀ {vs : List V} {ns : List Str}, Reps R H vs (ns.map D.str) → vs = ns.map V.str
  | _, [], .nil => rfl
  | _, n :: ns, .cons (.str _) t => congrArg (V.str n :: ·) (Reps.strs t)
theorem Reps.of_strs : ∀ {ns : List Str}, Reps R H (ns.map V.str) (ns.map D.str)
  | [] => .nil
  | n :: _ => .cons (.str n) Reps.of_strs
theorem Reps.bls : ∀ {vs : List V} {ns : List Bool}, Reps R H vs (ns.map D.bl) → vs = ns.map V.bl
  | _, [], .nil => rfl
  | _, n :: ns, .cons (.bl _) t => congrArg (V.bl n :: ·) (Reps.bls t)
end

/-! ### the cells of a frame -/
abbrev Sg := List (Option V)
/-- a local: nothing known, a datum, or a list (dict) that this local alone holds -/
inductive Cl where
  | emp
  | val (d : D)
  | own (d : D)
  deriving Inhabited
abbrev Loca := List Cl
def at_ : Loca → Nat → Cl
  | [], _ => .emp
  | c :: _, 0 => c
  | _ :: r, i + 1 => at_ r i
def put : Loca → Nat → Cl → Loca
  | [], _, _ => []
  | _ :: r, 0, c => c :: r
  | x :: r, i + 1, c => x :: put r i c
theorem put_eq : ∀ (l : Loca) (i : Nat) (c : Cl), put l i c = l.set i c
  | [], _, _ => rfl
  | _ :: _, 0, _ => rfl
  | x :: r, i + 1, c => congrArg (x :: ·) (put_eq r i c)
theorem at_eq : ∀ (l : Loca) (i : Nat), at_ l i = (l[i]?).getD .emp
  | [], _ => by simp [at_]
  | _ :: _, 0 => by simp [at_]
  | _ :: r, i + 1 => by simpa [at_] using at_eq r i
theorem at_some {l : Loca} {i : Nat} {c : Cl} (h : at_ l i = c) (hc : c ≠ .emp) : l[i]? = some c := by
  rw [at_eq] at h
  cases q : l[i]? with
  | none => rw [q] at h; exact absurd h.symm hc
  | some x => rw [q] at h; exact congrArg some h
theorem at_of {l : Loca} {i : Nat} {c : Cl} (h : l[i]? = some c) : at_ l i = c := by rw [at_eq, h]; rfl
theorem put_len (l : Loca) (i : Nat) (c : Cl) : (put l i c).length = l.length := by rw [put_eq, List.length_set]
theorem set_at {α : Type} {l : List α} {i j : Nat} {c x : α} (h : (l.set i c)[j]? = some x) : (i = j ∧ x = c ∧ i < l.length) ∨ (i ≠ j ∧ l[j]? = some x) := by
  by_cases q : i = j
  · subst q
    by_cases hl : i < l.length
    · rw [List.getElem?_set_self hl] at h
      exact .inl ⟨rfl, (Option.some.inj h).symm, hl⟩
    · rw [List.getElem?_eq_none (by simpa using hl)] at h; cases h
  · rw [List.getElem?_set_ne q] at h
    exact .inr ⟨q, h⟩

/-- the address stands in a local of its own -/
def Own (σ : Sg) (env : Loca) (a : Addr) : Prop := ∃ (i : Nat) (d : D), env[i]? = some (Cl.own d) ∧ σ[i]? = some (some (V.ref a))
open Classical in
/-- the abstract heap without the objects of Z -/
noncomputable def hz (Z : Addr → Prop) (H : Hp) : Hp := fun b => if Z b then none else H b
/-- .. and without the owned objects -/
noncomputable def hid (Z : Addr → Prop) (σ : Sg) (env : Loca) (H : Hp) : Hp := hz (fun b => Z b ∨ Own σ env b) H
section
variable {Z : Addr → Prop} {σ σ' : Sg} {env env' : Loca} {H H' : Hp} {b : Addr} {o : HO}
theorem hz_some {Z : Addr → Prop} {H : Hp} {b : Addr} {o : HO} (h : hz Z H b = some o) : ¬ Z b ∧ H b = some o := by
  unfold hz at h
  split at h
  · cases h
  · rename_i q
    exact ⟨q, h⟩
theorem hid_some (h : hid Z σ env H b = some o) : ¬ Z b ∧ ¬ Own σ env b ∧ H b = some o := by
  unfold hid hz at h
  split at h
  · cases h
  · rename_i q
    exact ⟨fun z => q (.inl z), fun z => q (.inr z), h⟩
theorem hid_of (h1 : ¬ Z b) (h2 : ¬ Own σ env b) (h : H b = some o) : hid Z σ env H b = some o := by
  unfold hid hz
  rw [if_neg (fun q => q.elim h1 h2)]
  exact h
theorem hid_le : Same (hid Z σ env H) H := fun _ _ h => (hid_some h).2.2
end
/-- an owned object's content -/
inductive RepO (R : RC) (H Hh : Hp) (a : Addr) : D → Prop
  | lst {vs : List V} {ds : List D} : H a = some (.lst vs) → Reps R Hh vs ds → RepO R H Hh a (.lst ds)
  | dk {kvs : List (Key × V)} {ds : List D} : H a = some (.dK kvs) → Reps R Hh (kvs.map (·.2)) ds → RepO R H Hh a (.dk (kvs.map (·.1)) ds)
theorem RepO.some {R : RC} {H Hh : Hp} {a : Addr} {d : D} (r : RepO R H Hh a d) : ∃ o, H a = some o := by
  cases r with
  | lst h _ => exact ⟨_, h⟩
  | dk h _ => exact ⟨_, h⟩
theorem RepO.mono {R : RC} {H Hh H' Hh' : Hp} {a : Addr} {d : D} (r : RepO R H Hh a d) (h : H' a = H a) (e : Same Hh Hh') : RepO R H' Hh' a d := by
  cases r with
  | lst q t => exact .lst (h.trans q) (t.mono e)
  | dk q t => exact .dk (h.trans q) (t.mono e)
theorem RepO.rep {R : RC} {H Hh H' : Hp} {a : Addr} {d : D} (r : RepO R H Hh a d) (h : H' a = H a) (e : Same Hh H') : Rep R H' (.ref a) d := by
  cases r with
  | lst q t => exact .lst (h.trans q) (t.mono e)
  | dk q t => exact .dk (h.trans q) (t.mono e)

/-- the frame's locals and the heap bear the cells; io: the parameter that is changed for the caller -/
structure ER (R : RC) (Z : Addr → Prop) (H0 : Hp) (io : Option (Nat × Addr)) (σ : Sg) (H : Hp) (env : Loca) : Prop where
  len : σ.length = env.length
  cell : ∀ (i : Nat) (d : D), env[i]? = some (Cl.val d) → ∃ v : V, σ[i]? = some (some v) ∧ Rep R (hid Z σ env H) v d
  own : ∀ (i : Nat) (d : D), env[i]? = some (Cl.own d) → ∃ a : Addr, σ[i]? = some (some (V.ref a)) ∧ RepO R H (hid Z σ env H) a d
  inj : ∀ (i j : Nat) (d e : D) (a : Addr), env[i]? = some (Cl.own d) → env[j]? = some (Cl.own e) → σ[i]? = some (some (V.ref a)) → σ[j]? = some (some (V.ref a)) → i = j
  old : ∀ b o, H0 b = some o → (∀ p, io ≠ some (p, b)) → H b = some o
  new : ∀ a, Own σ env a → H0 a = none ∨ ∃ p, io = some (p, a)
  zok : ∀ b, Z b → ∃ o, H b = some o
  zown : ∀ a, Own σ env a → Z a → ∃ p, io = some (p, a)
  ios : ∀ (p : Nat) (a : Addr), io = some (p, a) → σ[p]? = some (some (V.ref a)) ∧ ∃ d : D, env[p]? = some (Cl.own d)
/-- all but the owned objects stays; owned are those that were, and new ones -/
structure Mono (σ : Sg) (H : Hp) (env : Loca) (σ' : Sg) (H' : Hp) (env' : Loca) : Prop where
  keep : ∀ b o, H b = some o → ¬ Own σ env b → H' b = some o
  ow : ∀ b, Own σ' env' b → Own σ env b ∨ H b = none
  tr : ∀ b o, H b = some o → ∃ o', H' b = some o'
theorem Mono.free {σ σ' : Sg} {H H' : Hp} {env env' : Loca} (m : Mono σ H env σ' H' env') {p : Addr} (h : H' p = none) : H p = none := by
  cases q : H p with
  | none => rfl
  | some o =>
    obtain ⟨o', e⟩ := m.tr p o q
    rw [h] at e; cases e
theorem Mono.see {Z : Addr → Prop} {σ σ' : Sg} {H H' : Hp} {env env' : Loca} (m : Mono σ H env σ' H' env') : Same (hid Z σ env H) (hid Z σ' env' H') := fun b o h => by
  obtain ⟨a1, a2, a3⟩ := hid_some h
  refine hid_of a1 (fun z => ?_) (m.keep b o a3 a2)
  rcases m.ow b z with q | q
  · exact a2 q
  · rw [q] at a3; cases a3
theorem Mono.refl {σ : Sg} {H : Hp} {env : Loca} : Mono σ H env σ H env := ⟨fun _ _ h _ => h, fun _ h => .inl h, fun _ o h => ⟨o, h⟩⟩
theorem Mono.trans {σ σ' σ'' : Sg} {H H' H'' : Hp} {env env' env'' : Loca} (m : Mono σ H env σ' H' env') (n : Mono σ' H' env' σ'' H'' env'') : Mono σ H env σ'' H'' env'' := by
  refine ⟨fun b o h k => n.keep b o (m.keep b o h k) fun z => ?_, fun b z => ?_, fun b o h => let ⟨o', h'⟩ := m.tr b o h; n.tr b o' h'⟩
  · rcases m.ow b z with q | q
    · exact k q
    · rw [q] at h; cases h
  · rcases n.ow b z with q | q
    · exact m.ow b q
    · by_cases q2 : Own σ env b
      · exact .inl q2
      · cases q3 : H b with
        | none => exact .inr rfl
        | some o =>
          rw [m.keep b o q3 q2] at q; cases q

section
variable {R : RC} {Z : Addr → Prop} {H0 H H' : Hp} {io : Option (Nat × Addr)} {σ : Sg} {env : Loca}
theorem ER.iosH (r : ER R Z H0 io σ H env) {p : Nat} {a : Addr} (h : io = some (p, a)) : ∃ o, H a = some o := by
  obtain ⟨h1, d, h2⟩ := r.ios p a h
  obtain ⟨b, s1, ro⟩ := r.own p d h2
  rw [h1] at s1
  cases s1
  exact ro.some
theorem ER.freshOld (r : ER R Z H0 io σ H env) {p : Addr} (h : H p = none) : H0 p = none := by
  cases q : H0 p with
  | none => rfl
  | some o =>
    by_cases z : ∃ k, io = some (k, p)
    · obtain ⟨k, z⟩ := z
      obtain ⟨o', h'⟩ := r.iosH z
      rw [h] at h'; cases h'
    · have := r.old p o q fun k e => z ⟨k, e⟩
      rw [h] at this; cases this
theorem ER.fresh (r : ER R Z H0 io σ H env) {p : Addr} (h : H p = none) : ¬ Z p ∧ ¬ Own σ env p := by
  refine ⟨fun z => ?_, fun ⟨i, d, e1, e2⟩ => ?_⟩
  · obtain ⟨o, ho⟩ := r.zok p z
    rw [h] at ho; cases ho
  · obtain ⟨a, s1, ro⟩ := r.own i d e1
    rw [e2] at s1; cases s1
    obtain ⟨o, ho⟩ := ro.some
    rw [h] at ho; cases ho
/-- the heap grows -/
theorem ER.grow (r : ER R Z H0 io σ H env) (e : Same H H') : ER R Z H0 io σ H' env := by
  have hs : Same (hid Z σ env H) (hid Z σ env H') := fun b o h => let ⟨a1, a2, a3⟩ := hid_some h; hid_of a1 a2 (e _ _ a3)
  refine ⟨r.len, fun i d h => ?_, fun i d h => ?_, r.inj, fun b o h k => e _ _ (r.old b o h k), r.new, fun b z => let ⟨o, q⟩ := r.zok b z; ⟨o, e _ _ q⟩, r.zown, r.ios⟩
  · obtain ⟨v, s, q⟩ := r.cell i d h
    exact ⟨v, s, q.mono hs⟩
  · obtain ⟨a, s, q⟩ := r.own i d h
    obtain ⟨o, ho⟩ := q.some
    exact ⟨a, s, q.mono ((e _ _ ho).trans ho.symm) hs⟩
theorem mono_grow (e : Same H H') : Mono σ H env σ H' env := ⟨fun b o h _ => e b o h, fun _ h => .inl h, fun b o h => ⟨o, e b o h⟩⟩
theorem see_grow (e : Same H H') : Same (hid Z σ env H) (hid Z σ env H') := (mono_grow e).see
theorem same_new {p : Addr} {o : HO} (h : H p = none) : Same H (upd H p o) := fun b x e => by
  rw [upd_ne (ne_of_none e h)]
  exact e
/-- a new object is to be seen -/
theorem ER.seen (r : ER R Z H0 io σ H env) {p : Addr} {o : HO} (h : H p = none) : hid Z σ env (upd H p o) p = some o :=
  hid_of (r.fresh h).1 (r.fresh h).2 upd_same
theorem own_put {i : Nat} {c : Cl} {x : Option V} {a : Addr} (hc : ∀ d, c ≠ Cl.own d) (h : Own (σ.set i x) (env.set i c) a) : Own σ env a := by
  obtain ⟨j, d, e1, e2⟩ := h
  rcases set_at e1 with ⟨_, q, _⟩ | ⟨q, e1⟩
  · exact absurd q.symm (hc d)
  · rw [List.getElem?_set_ne q] at e2
    exact ⟨j, d, e1, e2⟩
theorem hid_put {i : Nat} {c : Cl} {x : Option V} (hc : ∀ d, c ≠ Cl.own d) : Same (hid Z σ env H) (hid Z (σ.set i x) (env.set i c) H) := fun b o h =>
  let ⟨a1, a2, a3⟩ := hid_some h
  hid_of a1 (fun z => a2 (own_put hc z)) a3
/-- a local is set: to a datum, or to nothing known -/
theorem ER.putC (r : ER R Z H0 io σ H env) {i : Nat} {x : Option V} {c : Cl} (hc : ∀ d, c ≠ Cl.own d) (hv : ∀ d, c = Cl.val d → ∃ v, x = some v ∧ Rep R (hid Z σ env H) v d) (hi : ∀ a, io ≠ some (i, a)) :
    ER R Z H0 io (σ.set i x) H (env.set i c) := by
  have hs : Same (hid Z σ env H) (hid Z (σ.set i x) (env.set i c) H) := hid_put hc
  refine ⟨by simp [r.len], fun j e h => ?_, fun j e h => ?_, fun j k e f a h1 h2 h3 h4 => ?_, r.old, fun a h => r.new a (own_put hc h), r.zok, fun a h z => r.zown a (own_put hc h) z, fun p a h => ?_⟩
  · rcases set_at h with ⟨rfl, q, hl⟩ | ⟨q, h⟩
    · obtain ⟨v, hx, hr⟩ := hv e q.symm
      exact ⟨v, by rw [List.getElem?_set_self (by rw [r.len]; exact hl), hx], hr.mono hs⟩
    · rw [List.getElem?_set_ne q]
      obtain ⟨u, s, q⟩ := r.cell j e h
      exact ⟨u, s, q.mono hs⟩
  · rcases set_at h with ⟨_, q, _⟩ | ⟨q, h⟩
    · exact absurd q.symm (hc e)
    · rw [List.getElem?_set_ne q]
      obtain ⟨u, s, q⟩ := r.own j e h
      exact ⟨u, s, q.mono rfl hs⟩
  · rcases set_at h1 with ⟨_, q, _⟩ | ⟨q1, h1⟩
    · exact absurd q.symm (hc e)
    · rcases set_at h2 with ⟨_, q, _⟩ | ⟨q2, h2⟩
      · exact absurd q.symm (hc f)
      · rw [List.getElem?_set_ne q1] at h3
        rw [List.getElem?_set_ne q2] at h4
        exact r.inj j k e f a h1 h2 h3 h4
  · obtain ⟨h1, d, h2⟩ := r.ios p a h
    have q : i ≠ p := fun q => hi a (by rw [q]; exact h)
    exact ⟨by rw [List.getElem?_set_ne q]; exact h1, d, by rw [List.getElem?_set_ne q]; exact h2⟩
theorem ER.put (r : ER R Z H0 io σ H env) {i : Nat} {v : V} {d : D} (hv : Rep R (hid Z σ env H) v d) (hi : ∀ a, io ≠ some (i, a)) :
    ER R Z H0 io (σ.set i (some v)) H (put env i (.val d)) ∧ Mono σ H env (σ.set i (some v)) H (Pd.put env i (.val d)) := by
  rw [put_eq]
  exact ⟨r.putC (fun _ z => by cases z) (fun e q => by cases q; exact ⟨v, rfl, hv⟩) hi, fun _ _ h _ => h, fun _ h => .inl (own_put (fun _ z => by cases z) h), fun _ o h => ⟨o, h⟩⟩
/-- an object that nothing refers to -/
abbrev zx (Z : Addr → Prop) (p : Addr) : Addr → Prop := fun b => Z b ∨ b = p
theorem hid_zx {σ : Sg} {env : Loca} {H : Hp} {p : Addr} : Same (hid (zx Z p) σ env H) (hid Z σ env H) := fun b o h =>
  let ⟨a1, a2, a3⟩ := hid_some h
  hid_of (fun z => a1 (.inl z)) a2 a3
/-- a new object is hidden -/
theorem ER.hide (r : ER R Z H0 io σ H env) {p : Addr} {Hb : Hp} {o : HO} (hp : H p = none) (e : Same H Hb) (ho : Hb p = some o) : ER R (zx Z p) H0 io σ Hb env ∧ Same (hid Z σ env H) (hid (zx Z p) σ env Hb) := by
  have hs : Same (hid Z σ env H) (hid (zx Z p) σ env Hb) := fun b u h => by
    obtain ⟨a1, a2, a3⟩ := hid_some h
    refine hid_of (fun z => ?_) a2 (e _ _ a3)
    rcases z with z | rfl
    · exact a1 z
    · rw [hp] at a3; cases a3
  refine ⟨⟨r.len, fun i d h => ?_, fun i d h => ?_, r.inj, fun b o h k => e _ _ (r.old b o h k), r.new, fun b z => ?_, fun a h z => ?_, r.ios⟩, hs⟩
  · obtain ⟨v, s, q⟩ := r.cell i d h
    exact ⟨v, s, q.mono hs⟩
  · obtain ⟨a, s, q⟩ := r.own i d h
    obtain ⟨u, hu⟩ := q.some
    exact ⟨a, s, q.mono ((e _ _ hu).trans hu.symm) hs⟩
  · rcases z with z | rfl
    · obtain ⟨u, q⟩ := r.zok b z
      exact ⟨u, e _ _ q⟩
    · exact ⟨o, ho⟩
  · rcases z with z | rfl
    · exact r.zown a h z
    · exact absurd h (r.fresh hp).2
/-- a hidden object becomes a local's own -/
theorem ER.putHid {p : Addr} (r : ER R (zx Z p) H0 io σ H env) {i : Nat} {d : D} (hn : ¬ Z p) (h0 : H0 p = none) (nio : ∀ k, io ≠ some (k, p)) (hi : ∀ a, io ≠ some (i, a)) (ho : RepO R H (hid (zx Z p) σ env H) p d) :
    ER R Z H0 io (σ.set i (some (.ref p))) H (Pd.put env i (.own d)) := by
  rw [put_eq]
  have np : ¬ Own σ env p := fun z => let ⟨k, q⟩ := r.zown p z (.inr rfl); nio k q
  have own1 : ∀ a, Own (σ.set i (some (.ref p))) (env.set i (.own d)) a → a = p ∨ Own σ env a := fun a ⟨j, f, e1, e2⟩ => by
    rcases set_at e2 with ⟨_, q, _⟩ | ⟨q, e2⟩
    · cases q; exact .inl rfl
    · rw [List.getElem?_set_ne q] at e1
      exact .inr ⟨j, f, e1, e2⟩
  have hs : Same (hid (zx Z p) σ env H) (hid Z (σ.set i (some (.ref p))) (env.set i (.own d)) H) := fun b o h => by
    obtain ⟨a1, a2, a3⟩ := hid_some h
    refine hid_of (fun z => a1 (.inl z)) (fun z => ?_) a3
    rcases own1 b z with rfl | z
    · exact a1 (.inr rfl)
    · exact a2 z
  have npo : ∀ (j : Nat) (f : D), env[j]? = some (Cl.own f) → σ[j]? ≠ some (some (V.ref p)) := fun j f h z => np ⟨j, f, h, z⟩
  refine ⟨by simp [r.len], fun j f h => ?_, fun j f h => ?_, fun j k f g a h1 h2 h3 h4 => ?_, r.old, fun a h => ?_, fun b z => r.zok b (.inl z), fun a h z => ?_, fun q a h => ?_⟩
  · rcases set_at h with ⟨_, q, _⟩ | ⟨q, h⟩
    · cases q
    · rw [List.getElem?_set_ne q]
      obtain ⟨u, s, q⟩ := r.cell j f h
      exact ⟨u, s, q.mono hs⟩
  · rcases set_at h with ⟨rfl, q, hl⟩ | ⟨q, h⟩
    · cases q
      exact ⟨p, List.getElem?_set_self (by rw [r.len]; exact hl), ho.mono rfl hs⟩
    · rw [List.getElem?_set_ne q]
      obtain ⟨u, s, q⟩ := r.own j f h
      exact ⟨u, s, q.mono rfl hs⟩
  · rcases set_at h1 with ⟨q1, _, hl⟩ | ⟨q1, h1⟩
    · rcases set_at h2 with ⟨q2, _, _⟩ | ⟨q2, h2⟩
      · rw [← q1, ← q2]
      · subst q1
        rw [List.getElem?_set_ne q2] at h4
        rw [List.getElem?_set_self (by rw [r.len]; exact hl)] at h3
        cases h3
        exact absurd h4 (npo k g h2)
    · rw [List.getElem?_set_ne q1] at h3
      rcases set_at h2 with ⟨q2, _, hl⟩ | ⟨q2, h2⟩
      · subst q2
        rw [List.getElem?_set_self (by rw [r.len]; exact hl)] at h4
        cases h4
        exact absurd h3 (npo j f h1)
      · rw [List.getElem?_set_ne q2] at h4
        exact r.inj j k f g a h1 h2 h3 h4
  · rcases own1 a h with rfl | h
    · exact .inl h0
    · exact r.new a h
  · rcases own1 a h with rfl | h
    · exact absurd z hn
    · exact r.zown a h (.inl z)
  · obtain ⟨h1, f, h2⟩ := r.ios q a h
    have ne : i ≠ q := fun z => hi a (by rw [z]; exact h)
    exact ⟨by rw [List.getElem?_set_ne ne]; exact h1, f, by rw [List.getElem?_set_ne ne]; exact h2⟩
theorem Mono.putHid {σ' : Sg} {H' : Hp} {env' : Loca} (m : Mono σ H env σ' H' env') {p : Addr} {i : Nat} {d : D} (hp : H p = none) : Mono σ H env (σ'.set i (some (.ref p))) H' (Pd.put env' i (.own d)) := by
  rw [put_eq]
  refine ⟨m.keep, fun b ⟨j, f, e1, e2⟩ => ?_, m.tr⟩
  rcases set_at e2 with ⟨_, q, _⟩ | ⟨q, e2⟩
  · cases q; exact .inr hp
  · rw [List.getElem?_set_ne q] at e1
    exact m.ow b ⟨j, f, e1, e2⟩
/-- what is known of a new list that nothing refers to -/
structure Fri (R : RC) (Z : Addr → Prop) (H0 : Hp) (io : Option (Nat × Addr)) (Hs : Hp) (σ : Sg) (H : Hp) (env : Loca) (p : Addr) (d : D) : Prop where
  hs : Hs p = none
  er : ER R (zx Z p) H0 io σ H env
  nz : ¬ Z p
  h0 : H0 p = none
  nio : ∀ k, io ≠ some (k, p)
  cont : RepO R H (hid (zx Z p) σ env H) p d
/-- a list (or dict) just laid -/
theorem Fri.mk' (r : ER R Z H0 io σ H env) {p : Addr} {Hb : Hp} {d : D} {o : HO} (hp : H p = none) (e : Same H Hb) (ho : Hb p = some o) (hc : ∀ Hh, Same (hid Z σ env H) Hh → RepO R Hb Hh p d) : Fri R Z H0 io H σ Hb env p d := by
  obtain ⟨r', hs⟩ := r.hide hp e ho
  refine ⟨hp, r', (r.fresh hp).1, r.freshOld hp, fun k q => ?_, hc _ hs⟩
  obtain ⟨u, hu⟩ := r.iosH q
  rw [hp] at hu; cases hu
theorem Fri.start {Hs Hs' : Hp} {p : Addr} {d : D} (f : Fri R Z H0 io Hs σ H env p d) (h : Hs' p = none) : Fri R Z H0 io Hs' σ H env p d := ⟨h, f.er, f.nz, f.h0, f.nio, f.cont⟩
/-- a local's own list is one among others from now on -/
theorem ER.release (r : ER R Z H0 io σ H env) {i : Nat} {d : D} (h : env[i]? = some (.own d)) (hi : ∀ a, io ≠ some (i, a)) :
    ER R Z H0 io σ H (Pd.put env i (.val d)) ∧ Mono σ H env σ H (Pd.put env i (.val d)) ∧ ∃ a : Addr, σ[i]? = some (some (V.ref a)) ∧ Rep R (hid Z σ (Pd.put env i (.val d)) H) (.ref a) d := by
  rw [put_eq]
  obtain ⟨a, s1, ro⟩ := r.own i d h
  have hil : i < env.length := (List.getElem?_eq_some_iff.mp h).1
  have own1 : ∀ b, Own σ (env.set i (.val d)) b → Own σ env b ∧ b ≠ a := fun b ⟨j, f, e1, e2⟩ => by
    rcases set_at e1 with ⟨_, q, _⟩ | ⟨q, e1⟩
    · cases q
    · refine ⟨⟨j, f, e1, e2⟩, fun z => ?_⟩
      subst z
      exact q (r.inj i j d f b h e1 s1 e2)
  have hs : Same (hid Z σ env H) (hid Z σ (env.set i (.val d)) H) := fun b o hb => by
    obtain ⟨a1, a2, a3⟩ := hid_some hb
    exact hid_of a1 (fun z => a2 (own1 b z).1) a3
  have hz : ¬ Z a := fun z => by
    obtain ⟨p, q⟩ := r.zown a ⟨i, d, h, s1⟩ z
    obtain ⟨e1, f, e2⟩ := r.ios p a q
    have := r.inj i p d f a h e2 s1 e1
    exact hi a (by rw [this]; exact q)
  have hrep : Rep R (hid Z σ (env.set i (.val d)) H) (.ref a) d := by
    cases ro with
    | lst q t => exact .lst (hid_of hz (fun z => (own1 a z).2 rfl) q) (t.mono hs)
    | dk q t => exact .dk (hid_of hz (fun z => (own1 a z).2 rfl) q) (t.mono hs)
  refine ⟨⟨by simp [r.len], fun j f e => ?_, fun j f e => ?_, fun j k f g b h1 h2 h3 h4 => ?_, r.old, fun b hb => r.new b (own1 b hb).1, r.zok, fun b hb z => r.zown b (own1 b hb).1 z, fun p b e => ?_⟩, ⟨fun _ _ h _ => h, fun b hb => .inl (own1 b hb).1, fun _ o h => ⟨o, h⟩⟩, a, s1, hrep⟩
  · rcases set_at e with ⟨rfl, q, _⟩ | ⟨q, e⟩
    · cases q
      exact ⟨_, s1, hrep⟩
    · obtain ⟨u, s, q⟩ := r.cell j f e
      exact ⟨u, s, q.mono hs⟩
  · rcases set_at e with ⟨_, q, _⟩ | ⟨q, e⟩
    · cases q
    · obtain ⟨u, s, q⟩ := r.own j f e
      exact ⟨u, s, q.mono rfl hs⟩
  · rcases set_at h1 with ⟨_, q, _⟩ | ⟨_, h1⟩
    · cases q
    · rcases set_at h2 with ⟨_, q, _⟩ | ⟨_, h2⟩
      · cases q
      · exact r.inj j k f g b h1 h2 h3 h4
  · obtain ⟨h1, f, h2⟩ := r.ios p b e
    exact ⟨h1, f, by rw [List.getElem?_set_ne fun q => hi b (by rw [q]; exact e)]; exact h2⟩
/-- an owned list is changed in its place -/
theorem ER.change (r : ER R Z H0 io σ H env) {i : Nat} {d d' : D} {a : Addr} (h : env[i]? = some (.own d)) (hs : σ[i]? = some (some (.ref a))) (hk : ∀ b o, b ≠ a → H b = some o → H' b = some o) (hr : RepO R H' (hid Z σ env H') a d') :
    ER R Z H0 io σ H' (Pd.put env i (.own d')) ∧ Mono σ H env σ H' (Pd.put env i (.own d')) := by
  rw [put_eq]
  have hil : i < env.length := (List.getElem?_eq_some_iff.mp h).1
  have oa : Own σ env a := ⟨i, d, h, hs⟩
  have own1 : ∀ b, Own σ (env.set i (.own d')) b → Own σ env b := fun b ⟨j, f, e1, e2⟩ => by
    rcases set_at e1 with ⟨rfl, _, _⟩ | ⟨_, e1⟩
    · exact ⟨i, d, h, e2⟩
    · exact ⟨j, f, e1, e2⟩
  have hm : Mono σ H env σ H' (env.set i (.own d')) := ⟨fun b u hb k => hk b u (fun z => k (by rw [z]; exact oa)) hb, fun b hb => .inl (own1 b hb), fun b u hb => by
    by_cases q : b = a
    · rw [q]; exact hr.some
    · exact ⟨u, hk b u q hb⟩⟩
  have hh : Same (hid Z σ env H') (hid Z σ (env.set i (.own d')) H') := fun b u hb => by
    obtain ⟨a1, a2, a3⟩ := hid_some hb
    exact hid_of a1 (fun z => a2 (own1 b z)) a3
  refine ⟨⟨by simp [r.len], fun j f e => ?_, fun j f e => ?_, fun j k f g b h1 h2 h3 h4 => ?_, fun b u e k => ?_, fun b hb => r.new b (own1 b hb), fun b z => ?_, fun b hb z => r.zown b (own1 b hb) z, fun p b e => ?_⟩, hm⟩
  · rcases set_at e with ⟨_, q, _⟩ | ⟨q, e⟩
    · cases q
    · obtain ⟨u, s, q⟩ := r.cell j f e
      exact ⟨u, s, q.mono hm.see⟩
  · rcases set_at e with ⟨rfl, q, _⟩ | ⟨q, e⟩
    · cases q
      exact ⟨a, hs, hr.mono rfl hh⟩
    · obtain ⟨u, s, z⟩ := r.own j f e
      have ne : u ≠ a := fun w => q (r.inj i j d f u h e (w ▸ hs) s)
      obtain ⟨o, ho⟩ := z.some
      exact ⟨u, s, z.mono ((hk u o ne ho).trans ho.symm) hm.see⟩
  · have w1 : ∃ f', env[j]? = some (.own f') := by
      rcases set_at h1 with ⟨rfl, _, _⟩ | ⟨_, h1⟩
      · exact ⟨d, h⟩
      · exact ⟨f, h1⟩
    have w2 : ∃ f', env[k]? = some (.own f') := by
      rcases set_at h2 with ⟨rfl, _, _⟩ | ⟨_, h2⟩
      · exact ⟨d, h⟩
      · exact ⟨g, h2⟩
    obtain ⟨f', w1⟩ := w1
    obtain ⟨g', w2⟩ := w2
    exact r.inj j k f' g' b w1 w2 h3 h4
  · refine hk b u (fun z => ?_) (r.old b u e k)
    subst z
    rcases r.new b oa with q | ⟨p, q⟩
    · rw [q] at e; cases e
    · exact k p q
  · by_cases q : b = a
    · rw [q]
      exact hr.some
    · obtain ⟨u, hu⟩ := r.zok b z
      exact ⟨u, hk b u q hu⟩
  · obtain ⟨h1, f, h2⟩ := r.ios p b e
    refine ⟨h1, ?_⟩
    by_cases q : i = p
    · subst q
      exact ⟨d', List.getElem?_set_self hil⟩
    · exact ⟨f, by rw [List.getElem?_set_ne q]; exact h2⟩
end
end Pd

/-! Short syntax; what it asks (weakest preconditions over data); that a Python term is said by it. -/
namespace Pd
open L2 PyProof.Rows PySem.Spec PySem

inductive BO | add | sub | mul | fdiv | mod
  deriving DecidableEq
inductive CO | eq | ne | lt | le | gt | ge | in_ | nin
  deriving DecidableEq
inductive BF | len | abs | max | min | int | str | tuple | list | sum | all | any | sorted | bool
  deriving DecidableEq
inductive TyN | int | bool | str | tuple | list
  deriving DecidableEq
inductive MF | join | count | index
  deriving DecidableEq
/-- exceptions of the program -/
inductive Exn
  | mal
  | ref (r : Str)
  | nt (i : Int)
/-- kinds of except clauses -/
inductive EK | mal | ref | nt
  deriving DecidableEq
def Exn.kind : Exn → EK
  | .mal => .mal
  | .ref _ => .ref
  | .nt _ => .nt
def Exn.field : Exn → D
  | .mal => .non
  | .ref r => .str r
  | .nt i => .int i

/-- expressions, lists of them, tests, what a for walks: one type -/
inductive E
  | nil | cons (e es : E)
  | var (i : Nat) | int (i : Int) | bl (b : Bool) | non | str (s : Str) | fnv (n : Nat) | gint (x : Str) (i : Int)
  | bin (o : BO) (a b : E) | neg (a : E) | not (a : E)
  | cmp (o : CO) (a b : E) | chn (o o' : CO) (a b c : E) | isn (a : E) | ntn (a : E)
  | and (es : E) | or (es : E) | ite (c a b : E) | tst (e : E)
  | tup (es : E) | lst (es : E)
  | call (n : Nat) (es : E) | cio (n i : Nat) (es : E) | clv (i : Nat) (es : E)
  | blt (f : BF) (es : E) | isi (a : E) (T : TyN)
  | ix (a b : E) | slc (a lo hi : E) | rev (a : E)
  | rng (es : E) | lrng (es : E) | seq (e : E)
  | lc (is : List Nat) (tp : Bool) (it c elt : E)
  | met (m : MF) (o : E) (es : E)

/-- how many a list of expressions has -/
def lnE : E → Nat
  | .cons _ es => lnE es + 1
  | _ => 0
/-- an operand: a datum, or a local that holds a list of its own, read when it is used -/
inductive Op
  | dat (d : D)
  | slot (i : Nat)
def isOwnL : Cl → Bool
  | .own (.lst _) => true
  | _ => false
def isOwn : Cl → Bool
  | .own _ => true
  | _ => false
def Cl.datum : Cl → D
  | .val d => d
  | .own d => d
  | .emp => .ins 0 []
def Op.rd (o : Op) (env : Loca) : D := match o with
  | .dat d => d
  | .slot i => (at_ env i).datum

/-! ### what operators ask -/
def DivOk (i j : Int) : Prop := (j ≠ 0 ∧ j.natAbs < 1073741824) ∨ (0 < j ∧ j.natAbs.log2 < 9000)
def MulOk (i j : Int) : Prop := CMul i j ∨ CMulW i j
def wBin : BO → D → D → (D → Prop) → Prop
  | .add, .int i, .int j, k => k (.int (i + j))
  | .sub, .int i, .int j, k => k (.int (i - j))
  | .mul, .int i, .int j, k => MulOk i j ∧ k (.int (i * j))
  | .fdiv, .int i, .int j, k => DivOk i j ∧ k (.int (i.fdiv j))
  | .mod, .int i, .int j, k => j ≠ 0 ∧ k (.int (i.fmod j))
  | .add, .str i, .str j, k => i.length + j.length ≤ sizeLine ∧ k (.str (i ++ j))
  | .add, .tup xs, .tup ys, k => xs.length + ys.length ≤ sizeLine ∧ k (.tup (xs ++ ys))
  | .add, .lst xs, .lst ys, k => xs.length + ys.length ≤ sizeLine ∧ k (.lst (xs ++ ys))
  | .mul, .lst xs, .int n, k => -(2 ^ 63) ≤ n ∧ n < 2 ^ 63 ∧ xs.length * n.toNat ≤ sizeLine ∧ k (.lst (List.replicate n.toNat xs).flatten)
  | .mul, .tup xs, .int n, k => xs ≠ [] ∧ 2 ≤ n ∧ n ≤ 1000 ∧ xs.length ≤ 1000 ∧ k (.tup (List.replicate n.toNat xs).flatten)
  | _, _, _, _ => False
def wTru : D → (Bool → Prop) → Prop
  | .bl b, k => k b
  | .int i, k => k (i != 0)
  | .non, k => k false
  | .str s, k => s.length ≤ sizeLine ∧ k (s.length != 0)
  | .tup xs, k => k (!xs.isEmpty)
  | .lst xs, k => k (!xs.isEmpty)
  | .frz xs, k => k (!xs.isEmpty)
  | _, _ => False
mutual
def pD : D → PyData
  | .non => .none
  | .bl b => .bool b
  | .int i => .int i
  | .str s => .str s
  | .tup xs => .tuple (pDs xs)
  | .lst xs => .list (pDs xs)
  | .frz xs => .list (pDs xs)
  | .dk _ _ => .none
  | .fn _ => .none
  | .ins _ _ => .none
def pDs : List D → List PyData
  | [] => []
  | x :: xs => pD x :: pDs xs
end
mutual
def okD : D → Bool
  | .non => true
  | .bl _ => true
  | .int _ => true
  | .str s => PyData.strOk s
  | .tup xs => okDs xs
  | .lst xs => okDs xs
  | .frz xs => okDs xs
  | .dk _ _ => false
  | .fn _ => false
  | .ins _ _ => false
def okDs : List D → Bool
  | [] => true
  | x :: xs => okD x && okDs xs
end
mutual
def depD : D → Nat
  | .tup xs => depDs xs + 1
  | .lst xs => depDs xs + 1
  | .frz xs => depDs xs + 1
  | .non | .bl _ | .int _ | .str _ | .dk _ _ | .fn _ | .ins _ _ => 0
def depDs : List D → Nat
  | [] => 0
  | x :: xs => max (depD x) (depDs xs)
end
mutual
def eqD : D → D → Bool
  | .non, .non => true
  | .bl a, .bl b => a == b
  | .bl a, .int j => (if a then 1 else 0) == j
  | .int i, .bl b => i == (if b then 1 else 0)
  | .int i, .int j => i == j
  | .str x, .str y => x == y
  | .tup xs, .tup ys => eqDs xs ys
  | .lst xs, .lst ys => eqDs xs ys
  | .lst xs, .frz ys => eqDs xs ys
  | .frz xs, .lst ys => eqDs xs ys
  | .frz xs, .frz ys => eqDs xs ys
  | _, _ => false
def eqDs : List D → List D → Bool
  | [], [] => true
  | x :: xs, y :: ys => eqD x y && eqDs xs ys
  | _, _ => false
end
/-- == is known of such data -/
def EqOk (d : D) : Prop := okD d = true ∧ depD d ≤ 64
def sclD : D → Bool
  | .non | .bl _ | .int _ | .str _ => true
  | _ => false
def lexI : List Int → List Int → Bool := HT.lexLt
/-- the ints of a row, if they are ints -/
def intsD : List D → Option (List Int)
  | [] => some []
  | .int i :: r => (intsD r).map (i :: ·)
  | _ => none
def strsD : List D → Option (List Str)
  | [] => some []
  | .str i :: r => (strsD r).map (i :: ·)
  | _ => none
def blsD : List D → Option (List Bool)
  | [] => some []
  | .bl i :: r => (blsD r).map (i :: ·)
  | _ => none
def seqD : D → Option (List D)
  | .tup xs => some xs
  | .lst xs => some xs
  | .frz xs => some xs
  | _ => none
def wCmp : CO → D → D → (Bool → Prop) → Prop
  | .eq, d, e, k => ((sclD d = true ∧ sclD e = true) ∨ (EqOk d ∧ EqOk e)) ∧ k (eqD d e)
  | .ne, d, e, k => ((sclD d = true ∧ sclD e = true) ∨ (EqOk d ∧ EqOk e)) ∧ k (!eqD d e)
  | .lt, .int i, .int j, k => k (decide (i < j))
  | .le, .int i, .int j, k => k (decide (i ≤ j))
  | .gt, .int i, .int j, k => k (decide (j < i))
  | .ge, .int i, .int j, k => k (decide (j ≤ i))
  | .lt, .tup xs, .tup ys, k => ∃ ns ms, intsD xs = some ns ∧ intsD ys = some ms ∧ k (HT.lexLt ns ms)
  | .in_, d, e, k => ∃ ds, seqD e = some ds ∧ sclD d = true ∧ ds.all sclD = true ∧ k (ds.any fun y => eqD y d)
  | .nin, d, e, k => ∃ ds, seqD e = some ds ∧ sclD d = true ∧ ds.all sclD = true ∧ k (!ds.any fun y => eqD y d)
  | _, _, _, _ => False
def cutD (xs : List D) (lo hi : Option Int) : List D := (xs.drop (HT.sIx xs.length 0 lo)).take (HT.sIx xs.length xs.length hi - HT.sIx xs.length 0 lo)
def wIx : D → D → (D → Prop) → Prop
  | .tup xs, .int i, k => ∃ d, atI xs i = some d ∧ k d
  | .lst xs, .int i, k => ∃ d, atI xs i = some d ∧ k d
  | .frz xs, .int i, k => ∃ d, atI xs i = some d ∧ k d
  | .str z, .int i, k => z.length ≤ sizeLine ∧ ∃ c, atI z.cps.toList i = some c ∧ k (.str ⟨#[c]⟩)
  | _, _, _ => False
def wSlc : D → Option Int → Option Int → (D → Prop) → Prop
  | .tup xs, lo, hi, k => k (.tup (cutD xs lo hi))
  | .lst xs, lo, hi, k => k (.lst (cutD xs lo hi))
  | .frz xs, lo, hi, k => k (.lst (cutD xs lo hi))
  | _, _, _, _ => False
def wOpt : List D → (Option Int → Prop) → Prop
  | [], k => k none
  | [.int i], k => k (some i)
  | _, _ => False
def tyIs : D → TyN → Bool
  | .bl _, .bool => true
  | .bl _, .int => true
  | .int _, .int => true
  | .str _, .str => true
  | .tup _, .tuple => true
  | .lst _, .list => true
  | .frz _, .list => true
  | _, _ => false
def isNonD : D → Bool
  | .non => true
  | _ => false
def hasTy : D → Bool
  | .frz _ => false
  | .fn _ => false
  | .ins _ _ => false
  | _ => true
def rngD (lo hi : Int) : List D := (List.range (hi - lo).toNat).map fun i => D.int (lo + (i : Nat))
def RgB (i : Int) : Prop := -(2 ^ 62) ≤ i ∧ i < 2 ^ 62
/-- the ends of a range -/
def rngE : List D → Option (Int × Int)
  | [.int n] => some (0, n)
  | [.int i, .int j] => some (i, j)
  | _ => none
/-! ### built-ins of data -/
abbrev Wb := List D → (D → Prop) → Prop
def wLen1 : D → (D → Prop) → Prop
  | .tup xs, k => k (.int xs.length)
  | .lst xs, k => k (.int xs.length)
  | .frz xs, k => k (.int xs.length)
  | .str s, k => s.length ≤ sizeLine ∧ k (.int s.length)
  | _, _ => False
def one1 (f : D → (D → Prop) → Prop) : Wb
  | [d], k => f d k
  | _, _ => False
def wAbs1 : D → (D → Prop) → Prop
  | .int i, k => k (.int (if i < 0 then -i else i))
  | _, _ => False
def wMax : Wb
  | [.int i, .int j], k => k (.int (if j > i then j else i))
  | [.lst xs], k => ∃ ns, intsD xs = some ns ∧ 0 < ns.length ∧ ∀ m, m ∈ ns → (∀ y ∈ ns, y ≤ m) → k (.int m)
  | _, _ => False
def wMin : Wb
  | [.int i, .int j], k => k (.int (if j < i then j else i))
  | [.lst xs], k => ∃ ns, intsD xs = some ns ∧ 0 < ns.length ∧ ∀ m, m ∈ ns → (∀ y ∈ ns, m ≤ y) → k (.int m)
  | _, _ => False
def wInt1 : D → (D → Prop) → Prop
  | .int i, k => k (.int i)
  | .bl b, k => k (.int (if b then 1 else 0))
  | _, _ => False
def wBool1 : D → (D → Prop) → Prop
  | .int i, k => k (.bl (i != 0))
  | .bl b, k => k (.bl b)
  | _, _ => False
def wStr1 : D → (D → Prop) → Prop
  | .int i, k => i.natAbs.log2 < 1920 ∧ k (.str (toString i))
  | _, _ => False
def wTuple1 : D → (D → Prop) → Prop
  | .tup xs, k => k (.tup xs)
  | .lst xs, k => k (.tup xs)
  | .frz xs, k => k (.tup xs)
  | _, _ => False
def wList1 : D → (D → Prop) → Prop
  | .tup xs, k => k (.lst xs)
  | .lst xs, k => k (.lst xs)
  | .frz xs, k => k (.lst xs)
  | _, _ => False
def wSum1 : D → (D → Prop) → Prop
  | .lst xs, k => ∃ ns, intsD xs = some ns ∧ k (.int ns.sum)
  | _, _ => False
def wAll1 : D → (D → Prop) → Prop
  | .lst xs, k => ∃ bs, blsD xs = some bs ∧ k (.bl (bs.all id))
  | _, _ => False
def wAny1 : D → (D → Prop) → Prop
  | .lst xs, k => ∃ bs, blsD xs = some bs ∧ k (.bl (bs.any id))
  | _, _ => False
def wBlt : BF → Wb
  | .len => one1 wLen1
  | .abs => one1 wAbs1
  | .max => wMax
  | .min => wMin
  | .int => one1 wInt1
  | .bool => one1 wBool1
  | .str => one1 wStr1
  | .tuple => one1 wTuple1
  | .list => one1 wList1
  | .sum => one1 wSum1
  | .all => one1 wAll1
  | .any => one1 wAny1
  | .sorted => fun _ _ => False
def wMet : MF → D → List D → (D → Prop) → Prop
  | .join, .str a, [.lst xs], k => ∃ ys, strsD xs = some ys ∧ (ys.map (·.length)).sum + ys.length * a.length ≤ 16777216 ∧ k (.str (Txt.join a ys))
  | _, _, _, _ => False

/-! ### tables -/
abbrev Spec := List D → (D → D → Prop) → (Exn → Prop) → Prop
/-- of each def by its number: does it change its first argument, is its list a new one, how deep does it call -/
structure Tb where
  fnm : Nat → Str
  io : Nat → Bool
  fr : Nat → Bool
  lv : Nat → Nat
  ek : EK → Bool
structure Gx where
  tb : Tb
  sp : Nat → Spec
  k : Nat
  iop : Option Nat

def isMut : D → Bool
  | .lst _ => true
  | .dk _ _ => true
  | _ => false
def frB : BO → Bool
  | .add => true
  | .mul => true
  | _ => false
def frF : BF → Bool
  | .list => true
  | .sorted => true
  | _ => false
/-- a new list, known by nobody else -/
def frE (T : Tb) : E → Bool
  | .lst _ => true
  | .lc .. => true
  | .lrng _ => true
  | .blt f _ => frF f
  | .bin o _ _ => frB o
  | .slc .. => true
  | .rev _ => true
  | .call n _ => T.fr n
  | _ => false

abbrev Wf := Loca → (D → Loca → Prop) → (Exn → Loca → Prop) → Prop
/-- an operand that is only looked at -/
def pk (a : E) (f : Wf) (env : Loca) (Q : Op → Loca → Prop) (X : Exn → Loca → Prop) : Prop := match a with
  | .var i => match at_ env i with
    | .val d => Q (.dat d) env
    | .own _ => Q (.slot i) env
    | .emp => False
  | _ => f env (fun d env' => Q (.dat d) env') X
def putAll : Loca → List Nat → List D → Loca
  | env, i :: is, d :: ds => putAll (put env i (.val d)) is ds
  | env, _, _ => env
/-- the target of a comprehension or loop -/
def wTgt (is : List Nat) (tp : Bool) (d : D) (env : Loca) (Q : Loca → Prop) : Prop := match tp, is, d with
  | false, [i], d => Q (put env i (.val d))
  | true, is, .tup ds => ds.length = is.length ∧ Q (putAll env is ds)
  | _, _, _ => False
def wipeC : Loca → List Nat → Loca
  | env, [] => env
  | env, i :: is => put (wipeC env is) i .emp
/-- behind a comprehension its names are what they were -/
def backC (env0 : Loca) : Loca → List Nat → Loca
  | env, [] => env
  | env, i :: is => put (backC env0 env is) i (at_ env0 i)
def lcLoop (turn : D → Loca → (Option D → Loca → Prop) → Prop) : List D → List D → Loca → (List D → Loca → Prop) → Prop
  | [], acc, env, Q => Q acc env
  | d :: ds, acc, env, Q => turn d env fun r env' => match r with
    | some y => acc.length < sizeLine ∧ lcLoop turn ds (acc ++ [y]) env' Q
    | none => lcLoop turn ds acc env' Q

mutual
def wE (G : Gx) : E → Wf
  | .var i, env, Q, _ => match at_ env i with
    | .val d => Q d env
    | .own d => G.iop ≠ some i ∧ Q d (put env i (.val d))
    | .emp => False
  | .int i, env, Q, _ => Q (.int i) env
  | .bl b, env, Q, _ => Q (.bl b) env
  | .non, env, Q, _ => Q .non env
  | .str s, env, Q, _ => Q (.str s) env
  | .fnv n, env, Q, _ => Q (.fn n) env
  | .gint _ i, env, Q, _ => Q (.int i) env
  | .bin o a b, env, Q, X => pk a (wE G a) env (fun x env1 => pk b (wE G b) env1 (fun y env2 => wBin o (x.rd env2) (y.rd env2) fun d => Q d env2) X) X
  | .neg a, env, Q, X => wE G a env (fun d env1 => match d with
    | .int i => Q (.int (-i)) env1
    | _ => False) X
  | .not a, env, Q, X => wE G a env (fun d env1 => match d with
    | .bl b => Q (.bl (!b)) env1
    | _ => False) X
  | .cmp o a b, env, Q, X => pk a (wE G a) env (fun x env1 => pk b (wE G b) env1 (fun y env2 => wCmp o (x.rd env2) (y.rd env2) fun c => Q (.bl c) env2) X) X
  | .chn o o' a b c, env, Q, X => wE G a env (fun x env1 => wE G b env1 (fun y env2 => wCmp o x y fun r => if r = true then wE G c env2 (fun z env3 => wCmp o' y z fun r' => Q (.bl r') env3) X else Q (.bl false) env2) X) X
  | .isn a, env, Q, X => wE G a env (fun d env1 => Q (.bl (isNonD d)) env1) X
  | .ntn a, env, Q, X => wE G a env (fun d env1 => Q (.bl (!isNonD d)) env1) X
  | .and es, env, Q, X => wAnd G es env Q X
  | .or es, env, Q, X => wOr G es env Q X
  | .ite c a b, env, Q, X => wT G c env (fun t env1 => if t = true then wE G a env1 Q X else wE G b env1 Q X) X
  | .tup es, env, Q, X => wA G es env (fun ds env1 => Q (.tup ds) env1) X
  | .lst es, env, Q, X => wA G es env (fun ds env1 => Q (.lst ds) env1) X
  | .call n es, env, Q, X => wA G es env (fun ds env1 => G.sp n ds (fun d _ => Q d env1) fun x => X x env1) X
  | .cio n i es, env, Q, X => isOwn (at_ env i) = true ∧ wA G es env (fun ds env1 => match at_ env1 i with
    | .own d0 => G.sp n (d0 :: ds) (fun d d1 => Q d (put env1 i (.own d1))) fun _ => False
    | _ => False) X
  | .clv i es, env, Q, X => ∃ n, at_ env i = .val (.fn n) ∧ G.tb.lv n < G.k ∧ G.tb.io n = false ∧ wA G es env (fun ds env1 => G.sp n ds (fun d _ => Q d env1) fun x => X x env1) X
  | .blt f es, env, Q, X => wP G es env (fun xs env1 => wBlt f (xs.map fun x => x.rd env1) fun d => Q d env1) X
  | .isi a T, env, Q, X => pk a (wE G a) env (fun x env1 => hasTy (x.rd env1) = true ∧ Q (.bl (tyIs (x.rd env1) T)) env1) X
  | .ix a b, env, Q, X => pk a (wE G a) env (fun x env1 => wE G b env1 (fun y env2 => wIx (x.rd env2) y fun d => Q d env2) X) X
  | .slc a lo hi, env, Q, X => pk a (wE G a) env (fun x env1 => wA G lo env1 (fun l env2 => wOpt l fun i => wA G hi env2 (fun h env3 => wOpt h fun j => wSlc (x.rd env3) i j fun d => Q d env3) X) X) X
  | .rev a, env, Q, X => pk a (wE G a) env (fun x env1 => match x.rd env1 with
    | .lst xs => Q (.lst xs.reverse) env1
    | .frz xs => Q (.lst xs.reverse) env1
    | _ => False) X
  | .lrng es, env, Q, X => wA G es env (fun ds env1 => ∃ p, rngE ds = some p ∧ RgOk p.1 p.2 ∧ Q (.lst (rngD p.1 p.2)) env1) X
  | .lc is tp it c elt, env, Q, X => wI G it env (fun ds env1 =>
      (∀ i ∈ is, ∀ d, at_ env1 i ≠ .own d) ∧ (∀ i ∈ is, G.iop ≠ some i) ∧
      lcLoop (fun d envt k => wTgt is tp d (wipeC envt is) fun env2 =>
        wC G c env2 fun r env3 => if r = true then wE G elt env3 (fun y env4 => k (some y) env4) (fun _ _ => False) else k none env3) ds [] env1
        fun out envf => Q (.lst out) (backC env1 (wipeC envf is) is)) X
  | .met m o es, env, Q, X => wE G o env (fun d env1 => wP G es env1 (fun xs env2 => wMet m d (xs.map fun x => x.rd env2) fun d => Q d env2) X) X
  | .nil, _, _, _ => False
  | .cons _ _, _, _, _ => False
  | .tst _, _, _, _ => False
  | .rng _, _, _, _ => False
  | .seq _, _, _, _ => False
/-- a list of expressions -/
def wA (G : Gx) : E → Loca → (List D → Loca → Prop) → (Exn → Loca → Prop) → Prop
  | .nil, env, Q, _ => Q [] env
  | .cons e es, env, Q, X => wE G e env (fun d env1 => wA G es env1 (fun ds env2 => Q (d :: ds) env2) X) X
  | _, _, _, _ => False
/-- .. that are only looked at -/
def wP (G : Gx) : E → Loca → (List Op → Loca → Prop) → (Exn → Loca → Prop) → Prop
  | .nil, env, Q, _ => Q [] env
  | .cons e es, env, Q, X => pk e (wE G e) env (fun x env1 => wP G es env1 (fun xs env2 => Q (x :: xs) env2) X) X
  | _, _, _, _ => False
def wAnd (G : Gx) : E → Wf
  | .cons e es, env, Q, X => match es with
    | .nil => wE G e env Q X
    | es => wE G e env (fun d env1 => match d with
      | .bl b => if b = true then wAnd G es env1 Q X else Q (.bl false) env1
      | _ => False) X
  | _, _, _, _ => False
def wOr (G : Gx) : E → Wf
  | .cons e es, env, Q, X => match es with
    | .nil => wE G e env Q X
    | es => wE G e env (fun d env1 => match d with
      | .bl b => if b = true then Q (.bl true) env1 else wOr G es env1 Q X
      | _ => False) X
  | _, _, _, _ => False
/-- a test -/
def wT (G : Gx) : E → Loca → (Bool → Loca → Prop) → (Exn → Loca → Prop) → Prop
  | .tst e, env, Q, X => pk e (wE G e) env (fun x env1 => wTru (x.rd env1) fun b => Q b env1) X
  | .not a, env, Q, X => wT G a env (fun b env1 => Q (!b) env1) X
  | .and es, env, Q, X => wTA G es env Q X
  | .or es, env, Q, X => wTO G es env Q X
  | _, _, _, _ => False
def wTA (G : Gx) : E → Loca → (Bool → Loca → Prop) → (Exn → Loca → Prop) → Prop
  | .nil, env, Q, _ => Q true env
  | .cons t ts, env, Q, X => wT G t env (fun b env1 => if b = true then wTA G ts env1 Q X else Q false env1) X
  | _, _, _, _ => False
def wTO (G : Gx) : E → Loca → (Bool → Loca → Prop) → (Exn → Loca → Prop) → Prop
  | .nil, env, Q, _ => Q false env
  | .cons t ts, env, Q, X => wT G t env (fun b env1 => if b = true then Q true env1 else wTO G ts env1 Q X) X
  | _, _, _, _ => False
/-- what is walked -/
def wI (G : Gx) : E → Loca → (List D → Loca → Prop) → (Exn → Loca → Prop) → Prop
  | .rng es, env, Q, X => wA G es env (fun ds env1 => ∃ p, rngE ds = some p ∧ RgB p.1 ∧ RgB p.2 ∧ Q (rngD p.1 p.2) env1) X
  | .seq e, env, Q, X => wE G e env (fun d env1 => ∃ ds, seqD d = some ds ∧ Q ds env1) X
  | _, _, _, _ => False
/-- the test of a comprehension: none or one -/
def wC (G : Gx) : E → Loca → (Bool → Loca → Prop) → Prop
  | .nil, env, Q => Q true env
  | .tst e, env, Q => pk e (wE G e) env (fun x env1 => wTru (x.rd env1) fun b => Q b env1) fun _ _ => False
  | _, _, _ => False
end

/-! ### statements -/
inductive S
  | nil | seq (s r : S)
  | expr (e : E) | asg (i : Nat) (e : E) | asgl (i : Nat) (e : E)
  | unp (is : List Nat) (e : E) | par (is : List Nat) (es : E)
  | app (i : Nat) (e : E) | seti (i : Nat) (a e : E)
  | ret (e : E) | retn
  | ife (c : E) (a b : S) | whl (c : E) (b : S) | for_ (is : List Nat) (tp : Bool) (it : E) (b : S)
  | brk | cnt
  | rmal (m : Str)
  | tr (b hs : S) | hnd (k : EK) (sl : Option Nat) (e : E) (r : S)
structure Po where
  nx : Loca → Prop
  rt : D → Bool → Loca → Prop
  bk : Loca → Prop
  ct : Loca → Prop
  ex : Exn → Loca → Prop
/-- what is known grows less -/
inductive WkC : Cl → Cl → Prop
  | refl (c : Cl) : WkC c c
  | emp (c : Cl) : WkC c .emp
  | rel (d : D) : WkC (.own d) (.val d)
def Weak (iop : Option Nat) (env env' : Loca) : Prop := env'.length = env.length ∧ ∀ (i : Nat) (c c' : Cl), env[i]? = some c → env'[i]? = some c' → WkC c c' ∧ (iop = some i → c = c')
theorem Weak.refl (iop : Option Nat) (env : Loca) : Weak iop env env := ⟨rfl, fun i c c' h h' => by
  rw [h] at h'; cases h'; exact ⟨.refl c, fun _ => rfl⟩⟩
def cellOf (T : Tb) (e : E) (d : D) : Cl := if (frE T e && isMut d) = true then .own d else .val d
def putCs : Loca → List Nat → List Cl → Loca
  | env, i :: is, d :: ds => putCs (put env i d) is ds
  | env, _, _ => env
/-- arguments with what their locals will be -/
def forLoop (iop : Option Nat) (turn : D → Loca → Po → Prop) : List D → Loca → Po → Prop
  | [], env, P => P.nx env
  | d :: ds, env, P => turn d env { P with
      nx := fun env' => ∃ env'', Weak iop env' env'' ∧ forLoop iop turn ds env'' P,
      ct := fun env' => ∃ env'', Weak iop env' env'' ∧ forLoop iop turn ds env'' P,
      bk := P.nx }
def wCs (G : Gx) : E → Loca → (List Cl → Loca → Prop) → (Exn → Loca → Prop) → Prop
  | .nil, env, Q, _ => Q [] env
  | .cons e es, env, Q, X => wE G e env (fun d env1 => wCs G es env1 (fun ds env2 => Q (cellOf G.tb e d :: ds) env2) X) X
  | _, _, _, _ => False
/-- a suite of an except clause hands back a constant tuple, or one with the error's field: sl's slot -/
def wHnd (G : Gx) : S → Exn → Loca → Po → Prop
  | .hnd k sl e r, x, env, P => if k = x.kind then (match sl, e with
      | none, .tup (.cons (.str a) (.cons .non .nil)) => P.rt (.tup [.str a, .non]) false env
      | none, .tup (.cons (.str a) (.cons (.str b) .nil)) => P.rt (.tup [.str a, .str b]) false env
      | some i, .tup (.cons (.str a) .nil) => i < env.length ∧ G.iop ≠ some i ∧ P.rt (.tup [.str a, x.field]) false env
      | _, _ => False) else wHnd G r x env P
  | .nil, x, env, P => P.ex x env
  | _, _, _, _ => False
/-- a value handed back: a new list, if it is this def's own -/
def wRet (G : Gx) (e : E) (env : Loca) (P : Po) : Prop := match e with
  | .var i => match at_ env i with
    | .val d => P.rt d false env
    | .own d => G.iop ≠ some i ∧ P.rt d true env
    | .emp => False
  | e => wE G e env (fun d env1 => P.rt d (frE G.tb e) env1) P.ex
def wS (G : Gx) : S → Loca → Po → Prop
  | .nil, env, P => P.nx env
  | .seq s r, env, P => wS G s env { P with nx := fun env1 => wS G r env1 P }
  | .expr e, env, P => wE G e env (fun _ env1 => P.nx env1) P.ex
  | .asg i e, env, P => wE G e env (fun d env1 => G.iop ≠ some i ∧ P.nx (put env1 i (cellOf G.tb e d))) P.ex
  | .asgl i e, env, P => wE G e env (fun d env1 => G.iop ≠ some i ∧ P.nx (put env1 i (cellOf G.tb e d))) P.ex
  | .unp is e, env, P => wE G e env (fun d env1 => (∀ i ∈ is, G.iop ≠ some i) ∧ ∃ ds, d = .tup ds ∧ ds.length = is.length ∧ P.nx (putAll env1 is ds)) P.ex
  | .par is es, env, P => wCs G es env (fun cs env1 => (∀ i ∈ is, G.iop ≠ some i) ∧ P.nx (putCs env1 is cs)) P.ex
  | .app i e, env, P => isOwnL (at_ env i) = true ∧ wE G e env (fun d env1 => match at_ env1 i with
    | .own (.lst xs) => xs.length < sizeLine ∧ P.nx (put env1 i (.own (.lst (xs ++ [d]))))
    | _ => False) P.ex
  | .seti i a e, env, P => wE G e env (fun d env1 => isOwnL (at_ env1 i) = true ∧ wE G a env1 (fun j env2 => match at_ env2 i, j with
    | .own (.lst xs), .int k => ∃ n, ixN xs.length k = some n ∧ P.nx (put env2 i (.own (.lst (xs.set n d))))
    | _, _ => False) P.ex) P.ex
  | .ret e, env, P => wRet G e env P
  | .retn, env, P => P.rt .non false env
  | .ife c a b, env, P => wT G c env (fun t env1 => if t = true then wS G a env1 P else wS G b env1 P) P.ex
  | .whl c b, env, P => ∃ I : Nat → Loca → Prop, (∃ n env', Weak G.iop env env' ∧ I n env') ∧ ∀ n env, I n env → wT G c env (fun t env1 => if t = true then wS G b env1 { P with
      nx := fun env' => ∃ env'' m, Weak G.iop env' env'' ∧ m < n ∧ I m env'',
      ct := fun env' => ∃ env'' m, Weak G.iop env' env'' ∧ m < n ∧ I m env'',
      bk := P.nx } else P.nx env1) P.ex
  | .for_ is tp it b, env, P => wI G it env (fun ds env1 => (∀ i ∈ is, G.iop ≠ some i) ∧ forLoop G.iop (fun d env2 P' => wTgt is tp d env2 fun env3 => wS G b env3 P') ds env1 P) P.ex
  | .brk, env, P => P.bk env
  | .cnt, env, P => P.ct env
  | .rmal _, env, P => P.ex .mal env
  | .tr b hs, env, P => wS G b env { P with ex := fun x env1 => wHnd G hs x env1 P }
  | .hnd .., _, _ => False
end Pd

/-! What the operators and built-ins of data mean in the machine: by values. -/
namespace Pd
open L2 PyProof.Rows PySem.Spec PySem

/-- a value to be looked at: it stands for the datum, or it is a local's own list -/
inductive PRep (R : RC) (H Hh : Hp) : V → D → Prop
  | rep {v : V} {d : D} : Rep R Hh v d → PRep R H Hh v d
  | own {a : Addr} {d : D} : RepO R H Hh a d → PRep R H Hh (.ref a) d
  | junk {v : V} : PRep R H Hh v (.ins 0 [])
section
variable {R : RC} {H Hh : Hp} (le : Same Hh H)
include le
theorem PRep.lst {v : V} {ds : List D} (p : PRep R H Hh v (.lst ds)) : ∃ a vs, v = .ref a ∧ H a = some (.lst vs) ∧ Reps R Hh vs ds := by
  cases p with
  | rep r => cases r with
    | lst h t => exact ⟨_, _, rfl, le _ _ h, t⟩
  | own r => cases r with
    | lst h t => exact ⟨_, _, rfl, h, t⟩
theorem PRep.frz {v : V} {ds : List D} (p : PRep R H Hh v (.frz ds)) : ∃ a vs, v = .ref a ∧ SqL R.K H a vs ∧ Reps R Hh vs ds := by
  cases p with
  | rep r => cases r with
    | frz h t => exact ⟨_, _, rfl, le.seq h, t⟩
  | own r => cases r
theorem PRep.tup {v : V} {ds : List D} (p : PRep R H Hh v (.tup ds)) : ∃ a vs, v = .ref a ∧ SqT R.K H a vs ∧ Reps R Hh vs ds := by
  cases p with
  | rep r => cases r with
    | tup h t => exact ⟨_, _, rfl, sqT_mono le h, t⟩
  | own r => cases r
omit le in
theorem PRep.int {v : V} {i : Int} (p : PRep R H Hh v (.int i)) : v = .int i := by
  cases p with
  | rep r => cases r; rfl
  | own r => cases r
omit le in
theorem PRep.bl {v : V} {i : Bool} (p : PRep R H Hh v (.bl i)) : v = .bl i := by
  cases p with
  | rep r => cases r; rfl
  | own r => cases r
omit le in
theorem PRep.str {v : V} {i : Str} (p : PRep R H Hh v (.str i)) : v = .str i := by
  cases p with
  | rep r => cases r; rfl
  | own r => cases r
omit le in
theorem PRep.non {v : V} (p : PRep R H Hh v .non) : v = .non := by
  cases p with
  | rep r => cases r; rfl
  | own r => cases r
/-- what such a value is, in the full heap -/
theorem PRep.full {v : V} {d : D} (p : PRep R H Hh v d) (hj : ∀ vs, d ≠ .ins 0 vs) : Rep R H v d := by
  cases p with
  | rep r => exact r.mono le
  | own r => exact r.rep rfl le
  | junk => exact absurd rfl (hj _)
end

/-! ### rules by values: several kinds of operands -/
section
variable {X : Cx}
def rEmp : R2 := fun _ _ _ _ => False
theorem op_emp {f : Value → Value → Sem Value} : OpR X f rEmp := fun _ _ _ _ _ _ _ _ _ _ _ _ h => h.elim
abbrev rI1 (g : Int → Int → V) : R2 := rI0 g
def rStrCat : R2 := fun x y H Q => ∃ i j, x = .str i ∧ y = .str j ∧ i.length + j.length ≤ sizeLine ∧ Q (.str (i ++ j)) H
def rBinD (K : PySem.W.Frag) (o : BO) : R2 := match o with
  | .add => fun x y H Q => rI0 (fun i j => .int (i + j)) x y H Q ∨ rStrCat x y H Q ∨ rCatA K x y H Q ∨ rCat x y H Q
  | .sub => rI0 fun i j => .int (i - j)
  | .mul => fun x y H Q => rI CMul (fun i j => .int (i * j)) x y H Q ∨ rI CMulW (fun i j => .int (i * j)) x y H Q ∨ rRep x y H Q ∨ rRepT K x y H Q
  | .fdiv => fun x y H Q => rI CDivN (fun i j => .int (i.fdiv j)) x y H Q ∨ rI CDivW (fun i j => .int (i / j)) x y H Q
  | .mod => rI (fun _ j => j ≠ 0) fun i j => .int (i.fmod j)
def boOp : BO → Operator
  | .add => .Add
  | .sub => .Sub
  | .mul => .Mult
  | .fdiv => .FloorDiv
  | .mod => .Mod
theorem op_binD (o : BO) : OpR X (binaryOp (boOp o)) (rBinD X.K o) := by
  cases o with
  | add => exact op_add.or (op_add_str.or (op_catA.or op_cat))
  | sub => exact op_sub
  | mul => exact op_mul.or (op_mulW.or (op_rep.or op_repT))
  | fdiv => exact op_fdivN.or op_fdivW
  | mod => exact op_modN
end

section
variable {R : RC} {Z : Addr → Prop} {H0 : Hp} {io : Option (Nat × Addr)} {σ : Sg} {H : Hp} {env : Loca}
/-- an answer: a value for d in a heap that has grown; if d is a list, a new one -/
def Ans (R : RC) (Z : Addr → Prop) (H0 : Hp) (io : Option (Nat × Addr)) (σ : Sg) (H : Hp) (env : Loca) (fresh : Bool) (d : D) (v : V) (H' : Hp) : Prop :=
  ER R Z H0 io σ H' env ∧ Mono σ H env σ H' env ∧ Rep R (hid Z σ env H') v d ∧ (fresh = true → isMut d = true → ∃ p, v = .ref p ∧ Fri R Z H0 io H σ H' env p d)
theorem Ans.flat (r : ER R Z H0 io σ H env) {d : D} {v : V} {f : Bool} (q : Rep R (hid Z σ env H) v d) (hm : f = true → isMut d = false) : Ans R Z H0 io σ H env f d v H :=
  ⟨r, .refl, q, fun hf h => by rw [hm hf] at h; cases h⟩
theorem Ans.newTup (r : ER R Z H0 io σ H env) {ds : List D} {vs : List V} {p : Addr} {f : Bool} (hp : H p = none) (q : Reps R (hid Z σ env H) vs ds) : Ans R Z H0 io σ H env f (.tup ds) (.ref p) (upd H p (.tup vs)) := by
  have e : Same H (upd H p (.tup vs)) := same_new hp
  exact ⟨r.grow e, mono_grow e, .tup (.inl (.inl (r.seen hp))) (q.mono (see_grow e)), fun _ h => by cases h⟩
theorem Ans.newLst (r : ER R Z H0 io σ H env) {ds : List D} {vs : List V} {p : Addr} {f : Bool} (hp : H p = none) (q : Reps R (hid Z σ env H) vs ds) : Ans R Z H0 io σ H env f (.lst ds) (.ref p) (upd H p (.lst vs)) := by
  have e : Same H (upd H p (.lst vs)) := same_new hp
  refine ⟨r.grow e, mono_grow e, .lst (r.seen hp) (q.mono (see_grow e)), fun _ _ => ⟨p, rfl, Fri.mk' r hp e upd_same fun Hh hs => .lst upd_same (q.mono hs)⟩⟩

abbrev Pr (R : RC) (Z : Addr → Prop) (σ : Sg) (H : Hp) (env : Loca) (v : V) (d : D) : Prop := PRep R H (hid Z σ env H) v d

theorem of_bin {o : BO} {x y : V} {d e : D} {Q : VK} {k : D → Prop} (r : ER R Z H0 io σ H env) (hx : Pr R Z σ H env x d) (hy : Pr R Z σ H env y e) (w : wBin o d e k)
    (hQ : ∀ g v H', k g → Ans R Z H0 io σ H env (frB o) g v H' → Q v H') : rBinD R.K o x y H Q := by
  cases d with
  | int i =>
    have hx := hx.int
    subst hx
    cases e with
    | int j =>
      have hy := hy.int
      subst hy
      cases o with
      | add => exact .inl ⟨i, j, rfl, rfl, hQ _ _ _ w (.flat r (.int _) fun _ => rfl)⟩
      | sub => exact ⟨i, j, rfl, rfl, hQ _ _ _ w (.flat r (.int _) fun _ => rfl)⟩
      | mul =>
        obtain ⟨m, w⟩ := w
        rcases m with m | m
        · exact .inl ⟨i, j, rfl, rfl, m, hQ _ _ _ w (.flat r (.int _) fun _ => rfl)⟩
        · exact .inr (.inl ⟨i, j, rfl, rfl, m, hQ _ _ _ w (.flat r (.int _) fun _ => rfl)⟩)
      | fdiv =>
        obtain ⟨m, w⟩ := w
        rcases m with m | m
        · exact .inl ⟨i, j, rfl, rfl, m, hQ _ _ _ w (.flat r (.int _) fun _ => rfl)⟩
        · refine .inr ⟨i, j, rfl, rfl, m, ?_⟩
          have q := hQ _ _ _ w (.flat r (.int _) fun _ => rfl)
          rw [Int.fdiv_eq_ediv_of_nonneg _ (Int.le_of_lt m.1)] at q
          exact q
      | mod => exact ⟨i, j, rfl, rfl, w.1, hQ _ _ _ w.2 (.flat r (.int _) fun _ => rfl)⟩
    | _ => cases o <;> exact absurd w (by intro z; exact z)
  | str i =>
    have hx := hx.str
    subst hx
    cases e with
    | str j =>
      have hy := hy.str
      subst hy
      cases o with
      | add => exact .inr (.inl ⟨i, j, rfl, rfl, w.1, hQ _ _ _ w.2 (.flat r (.str _) fun _ => rfl)⟩)
      | _ => exact absurd w (by intro z; exact z)
    | _ => cases o <;> exact absurd w (by intro z; exact z)
  | tup xs =>
    obtain ⟨a, vs, rfl, ha, hv⟩ := hx.tup hid_le
    cases e with
    | tup ys =>
      obtain ⟨b, us, rfl, hb, hu⟩ := hy.tup hid_le
      cases o with
      | add =>
        obtain ⟨hl, w⟩ := w
        refine .inr (.inr (.inl ⟨a, b, vs, us, rfl, rfl, ha, hb, by rw [hv.length, hu.length]; exact hl, ?_⟩))
        refine ⟨fun e => ?_, fun _ e => ?_, fun _ _ p hp => hQ _ _ _ w (.newTup r hp (hv.append hu))⟩
        · subst e
          cases hv
          exact hQ _ _ _ w (.flat r (match hy with | .rep q => q | .own q => nomatch q) fun _ => rfl)
        · subst e
          cases hu
          rw [List.append_nil] at w
          exact hQ _ _ _ w (.flat r (match hx with | .rep q => q | .own q => nomatch q) fun _ => rfl)
      | _ => exact absurd w (by intro z; exact z)
    | int j =>
      have hy := hy.int
      subst hy
      cases o with
      | mul =>
        obtain ⟨h1, h2, h3, h4, w⟩ := w
        refine .inr (.inr (.inr ⟨a, j, vs, rfl, rfl, ha, fun e => ?_, h2, h3, by rw [hv.length]; exact h4, fun p hp => hQ _ _ _ w (.newTup r hp (hv.rep _))⟩))
        subst e
        cases hv
        exact h1 rfl
      | _ => exact absurd w (by intro z; exact z)
    | _ => cases o <;> exact absurd w (by intro z; exact z)
  | lst xs =>
    obtain ⟨a, vs, rfl, ha, hv⟩ := hx.lst hid_le
    cases e with
    | lst ys =>
      obtain ⟨b, us, rfl, hb, hu⟩ := hy.lst hid_le
      cases o with
      | add =>
        obtain ⟨hl, w⟩ := w
        exact .inr (.inr (.inr ⟨a, b, vs, us, rfl, rfl, ha, hb, by rw [hv.length, hu.length]; exact hl, fun p hp => hQ _ _ _ w (.newLst r hp (hv.append hu))⟩))
      | _ => exact absurd w (by intro z; exact z)
    | int j =>
      have hy := hy.int
      subst hy
      cases o with
      | mul =>
        obtain ⟨h1, h2, h3, w⟩ := w
        exact .inr (.inr (.inl ⟨a, j, vs, rfl, rfl, ha, h1, h2, by rw [hv.length]; exact h3, fun p hp => hQ _ _ _ w (.newLst r hp (hv.rep _))⟩))
      | _ => exact absurd w (by intro z; exact z)
    | _ => cases o <;> exact absurd w (by intro z; exact z)
  | _ => cases o <;> cases e <;> exact absurd w (by intro z; exact z)
end
end Pd

/-! Truth, comparisons, items, slices, built-ins: by values. -/
namespace Pd
open L2 PyProof.Rows PySem.Spec PySem
section
variable {R : RC} {H Hh : Hp}

theorem of_tru (le : Same Hh H) {v : V} {d : D} {k : Bool → Prop} (hx : PRep R H Hh v d) (w : wTru d k) : ∃ b, TruV R.K v H b ∧ k b := by
  cases d with
  | non => cases hx.non; exact ⟨false, rfl, w⟩
  | bl b => cases hx.bl; exact ⟨b, rfl, w⟩
  | int i => cases hx.int; exact ⟨_, rfl, w⟩
  | str s =>
    cases hx.str
    refine ⟨_, ⟨w.1, rfl⟩, ?_⟩
    have e : ((s.length : Int) != 0) = (s.length != 0) := by
      cases hs : s.length with
      | zero => rfl
      | succ n => rfl
    rw [e]
    exact w.2
  | tup xs =>
    obtain ⟨a, vs, rfl, ha, hv⟩ := hx.tup le
    refine ⟨_, .inr (.inl ⟨vs, ha, rfl⟩), ?_⟩
    cases hv <;> exact w
  | lst xs =>
    obtain ⟨a, vs, rfl, ha, hv⟩ := hx.lst le
    refine ⟨_, .inl ⟨vs, .of ha, rfl⟩, ?_⟩
    cases hv <;> exact w
  | frz xs =>
    obtain ⟨a, vs, rfl, ha, hv⟩ := hx.frz le
    refine ⟨_, .inl ⟨vs, ha, rfl⟩, ?_⟩
    cases hv <;> exact w
  | dk _ _ => exact absurd w (by intro z; exact z)
  | fn _ => exact absurd w (by intro z; exact z)
  | ins _ _ => exact absurd w (by intro z; exact z)

/-! ### == -/
mutual
theorem eqv_eqD : ∀ d e : D, okD d = true → okD e = true → PyData.eqv (pD d) (pD e) = eqD d e
  | .non, .non, _, _ => by simp [pD, PyData.eqv, eqD]
  | .non, .bl _, _, _ => by simp [pD, PyData.eqv, eqD]
  | .non, .int _, _, _ => by simp [pD, PyData.eqv, eqD]
  | .non, .str _, _, _ => by simp [pD, PyData.eqv, eqD]
  | .non, .tup _, _, _ => by simp [pD, PyData.eqv, eqD]
  | .non, .lst _, _, _ => by simp [pD, PyData.eqv, eqD]
  | .non, .frz _, _, _ => by simp [pD, PyData.eqv, eqD]
  | .bl _, .non, _, _ => by simp [pD, PyData.eqv, eqD]
  | .bl _, .bl _, _, _ => by simp [pD, PyData.eqv, eqD]
  | .bl _, .int _, _, _ => by simp [pD, PyData.eqv, eqD]
  | .bl _, .str _, _, _ => by simp [pD, PyData.eqv, eqD]
  | .bl _, .tup _, _, _ => by simp [pD, PyData.eqv, eqD]
  | .bl _, .lst _, _, _ => by simp [pD, PyData.eqv, eqD]
  | .bl _, .frz _, _, _ => by simp [pD, PyData.eqv, eqD]
  | .int _, .non, _, _ => by simp [pD, PyData.eqv, eqD]
  | .int _, .bl _, _, _ => by simp [pD, PyData.eqv, eqD]
  | .int _, .int _, _, _ => by simp [pD, PyData.eqv, eqD]
  | .int _, .str _, _, _ => by simp [pD, PyData.eqv, eqD]
  | .int _, .tup _, _, _ => by simp [pD, PyData.eqv, eqD]
  | .int _, .lst _, _, _ => by simp [pD, PyData.eqv, eqD]
  | .int _, .frz _, _, _ => by simp [pD, PyData.eqv, eqD]
  | .str _, .non, _, _ => by simp [pD, PyData.eqv, eqD]
  | .str _, .bl _, _, _ => by simp [pD, PyData.eqv, eqD]
  | .str _, .int _, _, _ => by simp [pD, PyData.eqv, eqD]
  | .str _, .str _, _, _ => by simp [pD, PyData.eqv, eqD]
  | .str _, .tup _, _, _ => by simp [pD, PyData.eqv, eqD]
  | .str _, .lst _, _, _ => by simp [pD, PyData.eqv, eqD]
  | .str _, .frz _, _, _ => by simp [pD, PyData.eqv, eqD]
  | .tup _, .non, _, _ => by simp [pD, PyData.eqv, eqD]
  | .tup _, .bl _, _, _ => by simp [pD, PyData.eqv, eqD]
  | .tup _, .int _, _, _ => by simp [pD, PyData.eqv, eqD]
  | .tup _, .str _, _, _ => by simp [pD, PyData.eqv, eqD]
  | .tup xs, .tup ys, h1, h2 => by
    simp only [pD, PyData.eqv, eqD]
    exact eqv_eqDs xs ys (by simpa [okD] using h1) (by simpa [okD] using h2)
  | .tup _, .lst _, _, _ => by simp [pD, PyData.eqv, eqD]
  | .tup _, .frz _, _, _ => by simp [pD, PyData.eqv, eqD]
  | .lst _, .non, _, _ => by simp [pD, PyData.eqv, eqD]
  | .lst _, .bl _, _, _ => by simp [pD, PyData.eqv, eqD]
  | .lst _, .int _, _, _ => by simp [pD, PyData.eqv, eqD]
  | .lst _, .str _, _, _ => by simp [pD, PyData.eqv, eqD]
  | .lst _, .tup _, _, _ => by simp [pD, PyData.eqv, eqD]
  | .lst xs, .lst ys, h1, h2 => by
    simp only [pD, PyData.eqv, eqD]
    exact eqv_eqDs xs ys (by simpa [okD] using h1) (by simpa [okD] using h2)
  | .lst xs, .frz ys, h1, h2 => by
    simp only [pD, PyData.eqv, eqD]
    exact eqv_eqDs xs ys (by simpa [okD] using h1) (by simpa [okD] using h2)
  | .frz _, .non, _, _ => by simp [pD, PyData.eqv, eqD]
  | .frz _, .bl _, _, _ => by simp [pD, PyData.eqv, eqD]
  | .frz _, .int _, _, _ => by simp [pD, PyData.eqv, eqD]
  | .frz _, .str _, _, _ => by simp [pD, PyData.eqv, eqD]
  | .frz _, .tup _, _, _ => by simp [pD, PyData.eqv, eqD]
  | .frz xs, .lst ys, h1, h2 => by
    simp only [pD, PyData.eqv, eqD]
    exact eqv_eqDs xs ys (by simpa [okD] using h1) (by simpa [okD] using h2)
  | .frz xs, .frz ys, h1, h2 => by
    simp only [pD, PyData.eqv, eqD]
    exact eqv_eqDs xs ys (by simpa [okD] using h1) (by simpa [okD] using h2)
  | .dk _ _, _, h, _ => by simp [okD] at h
  | .fn _, _, h, _ => by simp [okD] at h
  | .ins _ _, _, h, _ => by simp [okD] at h
  | _, .dk _ _, _, h => by simp [okD] at h
  | _, .fn _, _, h => by simp [okD] at h
  | _, .ins _ _, _, h => by simp [okD] at h
theorem eqv_eqDs : ∀ xs ys : List D, okDs xs = true → okDs ys = true → PyData.eqvAll (pDs xs) (pDs ys) = eqDs xs ys
  | [], [], _, _ => by simp [pDs, PyData.eqvAll, eqDs]
  | [], _ :: _, _, _ => by simp [pDs, PyData.eqvAll, eqDs]
  | _ :: _, [], _, _ => by simp [pDs, PyData.eqvAll, eqDs]
  | x :: xs, y :: ys, h1, h2 => by
    simp only [okDs, Bool.and_eq_true] at h1 h2
    simp only [pDs, PyData.eqvAll, eqDs, eqv_eqD x y h1.1 h2.1, eqv_eqDs xs ys h1.2 h2.2]
end
mutual
theorem pD_can : ∀ d : D, okD d = true → (pD d).canLay0 = true ∧ (pD d).depth = depD d
  | .non, _ => by simp [pD, PyData.canLay0, PyData.depth, depD]
  | .bl _, _ => by simp [pD, PyData.canLay0, PyData.depth, depD]
  | .int _, _ => by simp [pD, PyData.canLay0, PyData.depth, depD]
  | .str s, h => by
    simp only [okD] at h
    simp [pD, PyData.canLay0, PyData.depth, depD, h]
  | .tup xs, h => by
    obtain ⟨a, b⟩ := pDs_can xs (by simpa [okD] using h)
    simp [pD, PyData.canLay0, PyData.depth, depD, a, b]
  | .lst xs, h => by
    obtain ⟨a, b⟩ := pDs_can xs (by simpa [okD] using h)
    simp [pD, PyData.canLay0, PyData.depth, depD, a, b]
  | .frz xs, h => by
    obtain ⟨a, b⟩ := pDs_can xs (by simpa [okD] using h)
    simp [pD, PyData.canLay0, PyData.depth, depD, a, b]
  | .dk _ _, h => by simp [okD] at h
  | .fn _, h => by simp [okD] at h
  | .ins _ _, h => by simp [okD] at h
theorem pDs_can : ∀ xs : List D, okDs xs = true → PyData.canLayAll0 (pDs xs) = true ∧ PyData.depthAll (pDs xs) = depDs xs
  | [], _ => by simp [pDs, PyData.canLayAll0, PyData.depthAll, depDs]
  | x :: xs, h => by
    simp only [okDs, Bool.and_eq_true] at h
    obtain ⟨a, b⟩ := pD_can x h.1
    obtain ⟨c, d⟩ := pDs_can xs h.2
    simp [pDs, PyData.canLayAll0, PyData.depthAll, depDs, a, b, c, d]
end
theorem EqOk.shaped {d : D} (h : EqOk d) : SeqAt.shaped (pD d) = true := by
  obtain ⟨a, b⟩ := pD_can d h.1
  simp [SeqAt.shaped, a, b, h.2]
mutual
theorem Rep.dp : ∀ {v : V} {d : D}, Rep R H v d → okD d = true → Dp R.K H v (pD d)
  | _, _, .non, _ => .non
  | _, _, .bl b, _ => .bl b
  | _, _, .int i, _ => .int i
  | _, _, .str s, _ => .str s
  | _, _, .tup h r, k => .tup h (Reps.dps r (by simpa [okD] using k))
  | _, _, .lst h r, k => .lst (.of h) (Reps.dps r (by simpa [okD] using k))
  | _, _, .frz h r, k => .lst h (Reps.dps r (by simpa [okD] using k))
  | _, _, .dk _ _, k => by simp [okD] at k
  | _, _, .fn _ _, k => by simp [okD] at k
  | _, _, .ins _ _ _ _, k => by simp [okD] at k
theorem Reps.dps : ∀ {vs : List V} {ds : List D}, Reps R H vs ds → okDs ds = true → DpAll R.K H vs (pDs ds)
  | _, _, .nil, _ => .nil
  | _, _, .cons r t, k => by
    simp only [okDs, Bool.and_eq_true] at k
    exact .cons (Rep.dp r k.1) (Reps.dps t k.2)
end
theorem of_eqS {v u : V} {d e : D} (hx : PRep R H Hh v d) (hy : PRep R H Hh u e) (h : (sclD d = true ∧ sclD e = true) ∨ (EqOk d ∧ EqOk e)) (le : Same Hh H) :
    (scal v u = true ∧ decide (v = u) = eqD d e) ∨ ∃ p q, Dp R.K H v p ∧ Dp R.K H u q ∧ SeqAt.shaped p = true ∧ SeqAt.shaped q = true ∧ PyData.eqv p q = eqD d e := by
  have gen : EqOk d → EqOk e → ∃ p q, Dp R.K H v p ∧ Dp R.K H u q ∧ SeqAt.shaped p = true ∧ SeqAt.shaped q = true ∧ PyData.eqv p q = eqD d e := fun h1 h2 =>
    ⟨pD d, pD e, (hx.full le fun vs q => by rw [q] at h1; simp [EqOk, okD] at h1).dp h1.1, (hy.full le fun vs q => by rw [q] at h2; simp [EqOk, okD] at h2).dp h2.1, h1.shaped, h2.shaped, eqv_eqD d e h1.1 h2.1⟩
  rcases h with ⟨h1, h2⟩ | ⟨h1, h2⟩
  · have k0 : ∀ {d : D}, (d = .non ∨ (∃ b, d = .bl b) ∨ ∃ i, d = .int i) → EqOk d := fun {d} h => by
      rcases h with rfl | ⟨b, rfl⟩ | ⟨i, rfl⟩ <;> exact ⟨by simp [okD], by simp [depD]⟩
    cases d with
    | non =>
      cases hx.non
      cases e with
      | non => cases hy.non; exact .inl ⟨rfl, by simp [eqD]⟩
      | bl b => cases hy.bl; exact .inl ⟨rfl, by simp [eqD]⟩
      | int i => cases hy.int; exact .inl ⟨rfl, by simp [eqD]⟩
      | str s => cases hy.str; exact .inl ⟨rfl, by simp [eqD]⟩
      | _ => simp [sclD] at h2
    | bl b =>
      cases hx.bl
      cases e with
      | non => cases hy.non; exact .inl ⟨rfl, by simp [eqD]⟩
      | bl b => cases hy.bl; exact .inl ⟨rfl, by rw [dec_bl]; simp [eqD]⟩
      | int i => exact .inr (gen (k0 (.inr (.inl ⟨_, rfl⟩))) (k0 (.inr (.inr ⟨_, rfl⟩))))
      | str s => cases hy.str; exact .inl ⟨rfl, by simp [eqD]⟩
      | _ => simp [sclD] at h2
    | int i =>
      cases hx.int
      cases e with
      | non => cases hy.non; exact .inl ⟨rfl, by simp [eqD]⟩
      | bl b => exact .inr (gen (k0 (.inr (.inr ⟨_, rfl⟩))) (k0 (.inr (.inl ⟨_, rfl⟩))))
      | int j => cases hy.int; exact .inl ⟨rfl, by rw [dec_int]; simp [eqD]⟩
      | str s => cases hy.str; exact .inl ⟨rfl, by simp [eqD]⟩
      | _ => simp [sclD] at h2
    | str s =>
      cases hx.str
      cases e with
      | non => cases hy.non; exact .inl ⟨rfl, by simp [eqD]⟩
      | bl b => cases hy.bl; exact .inl ⟨rfl, by simp [eqD]⟩
      | int j => cases hy.int; exact .inl ⟨rfl, by simp [eqD]⟩
      | str s => cases hy.str; exact .inl ⟨rfl, by rw [dec_str]; simp [eqD]⟩
      | _ => simp [sclD] at h2
    | _ => simp [sclD] at h1
  · exact .inr (gen h1 h2)
theorem scl_flat {v : V} {d : D} (h : Rep R H v d) (k : sclD d = true) : flatV v = true := by
  cases h <;> first | rfl | simp [sclD] at k
theorem scl_eq {v u : V} {d e : D} (hx : Rep R H v d) (hy : Rep R H u e) (k1 : sclD d = true) (k2 : sclD e = true) : eqV v u = eqD d e := by
  cases hx <;> first | (simp [sclD] at k1; done) | (cases hy <;> first | (simp [sclD] at k2; done) | simp [eqV, eqD])
theorem scl_all : ∀ {vs : List V} {ds : List D}, Reps R H vs ds → ds.all sclD = true → vs.all flatV = true
  | _, _, .nil, _ => rfl
  | _, _, .cons r t, k => by
    simp only [List.all_cons, Bool.and_eq_true] at k ⊢
    exact ⟨scl_flat r k.1, scl_all t k.2⟩
theorem scl_any {u : V} {e : D} (hy : Rep R H u e) (k2 : sclD e = true) : ∀ {vs : List V} {ds : List D}, Reps R H vs ds → ds.all sclD = true → inV u vs = ds.any fun y => eqD y e
  | _, _, .nil, _ => rfl
  | _, _, .cons r t, k => by
    simp only [List.all_cons, Bool.and_eq_true] at k
    have ih := scl_any hy k2 t k.2
    unfold inV at ih ⊢
    rw [List.any_cons, List.any_cons, ih, scl_eq r hy k.1 k2]

theorem intsD_eq : ∀ {ds : List D} {ns : List Int}, intsD ds = some ns → ds = ns.map D.int
  | [], _, h => by cases h; rfl
  | .int i :: r, ns, h => by
    simp only [intsD, Option.map_eq_some_iff] at h
    obtain ⟨m, h, rfl⟩ := h
    rw [intsD_eq h]; rfl
  | .non :: _, _, h => by simp [intsD] at h
  | .bl _ :: _, _, h => by simp [intsD] at h
  | .str _ :: _, _, h => by simp [intsD] at h
  | .tup _ :: _, _, h => by simp [intsD] at h
  | .lst _ :: _, _, h => by simp [intsD] at h
  | .frz _ :: _, _, h => by simp [intsD] at h
  | .dk _ _ :: _, _, h => by simp [intsD] at h
  | .fn _ :: _, _, h => by simp [intsD] at h
  | .ins _ _ :: _, _, h => by simp [intsD] at h
theorem intsD_map : ∀ ns : List Int, intsD (ns.map D.int) = some ns
  | [] => rfl
  | n :: ns => by simp [intsD, intsD_map ns]
theorem strsD_eq : ∀ {ds : List D} {ns : List Str}, strsD ds = some ns → ds = ns.map D.str
  | [], _, h => by cases h; rfl
  | .str i :: r, ns, h => by
    simp only [strsD, Option.map_eq_some_iff] at h
    obtain ⟨m, h, rfl⟩ := h
    rw [strsD_eq h]; rfl
  | .non :: _, _, h => by simp [strsD] at h
  | .bl _ :: _, _, h => by simp [strsD] at h
  | .int _ :: _, _, h => by simp [strsD] at h
  | .tup _ :: _, _, h => by simp [strsD] at h
  | .lst _ :: _, _, h => by simp [strsD] at h
  | .frz _ :: _, _, h => by simp [strsD] at h
  | .dk _ _ :: _, _, h => by simp [strsD] at h
  | .fn _ :: _, _, h => by simp [strsD] at h
  | .ins _ _ :: _, _, h => by simp [strsD] at h
theorem strsD_map : ∀ ns : List Str, strsD (ns.map D.str) = some ns
  | [] => rfl
  | n :: ns => by simp [strsD, strsD_map ns]
theorem blsD_eq : ∀ {ds : List D} {ns : List Bool}, blsD ds = some ns → ds = ns.map D.bl
  | [], _, h => by cases h; rfl
  | .bl i :: r, ns, h => by
    simp only [blsD, Option.map_eq_some_iff] at h
    obtain ⟨m, h, rfl⟩ := h
    rw [blsD_eq h]; rfl
  | .non :: _, _, h => by simp [blsD] at h
  | .str _ :: _, _, h => by simp [blsD] at h
  | .int _ :: _, _, h => by simp [blsD] at h
  | .tup _ :: _, _, h => by simp [blsD] at h
  | .lst _ :: _, _, h => by simp [blsD] at h
  | .frz _ :: _, _, h => by simp [blsD] at h
  | .dk _ _ :: _, _, h => by simp [blsD] at h
  | .fn _ :: _, _, h => by simp [blsD] at h
  | .ins _ _ :: _, _, h => by simp [blsD] at h
theorem blsD_map : ∀ ns : List Bool, blsD (ns.map D.bl) = some ns
  | [] => rfl
  | n :: ns => by simp [blsD, blsD_map ns]
end

/-! ### comparisons -/
section
variable {X : Cx}
def coOp : CO → CmpOp
  | .eq => .Eq
  | .ne => .NotEq
  | .lt => .Lt
  | .le => .LtE
  | .gt => .Gt
  | .ge => .GtE
  | .in_ => .In
  | .nin => .NotIn
def rCmpD (K : PySem.W.Frag) (o : CO) : R2 := match o with
  | .eq => fun x y H Q => rEq x y H Q ∨ rEqD K x y H Q
  | .ne => fun x y H Q => rNe x y H Q ∨ rNeD K x y H Q
  | .lt => fun x y H Q => rI0 (fun i j => .bl (decide (i < j))) x y H Q ∨ rLtT K x y H Q
  | .le => rI0 fun i j => .bl (decide (i ≤ j))
  | .gt => rI0 fun i j => .bl (decide (j < i))
  | .ge => rI0 fun i j => .bl (decide (j ≤ i))
  | .in_ => rIn K false
  | .nin => rIn K true
theorem op_cmpD (o : CO) (hu : X.A.units + 64 < cLine) : OpR X (compareOp (coOp o)) (rCmpD X.K o) := by
  cases o with
  | eq => exact op_eq.or (op_eqD hu)
  | ne => exact op_ne.or (op_neD hu)
  | lt => exact op_lt.or (op_ltT (by omega))
  | le => exact op_le
  | gt => exact op_gt
  | ge => exact op_ge
  | in_ => exact op_in_seq
  | nin => exact op_notIn_seq
theorem of_cmp {R : RC} {H Hh : Hp} (le : Same Hh H) {o : CO} {v u : V} {d e : D} {k : Bool → Prop} {Q : VK} (hx : PRep R H Hh v d) (hy : PRep R H Hh u e) (w : wCmp o d e k) (hQ : ∀ b, k b → Q (.bl b) H) : rCmpD R.K o v u H Q := by
  have seqs : ∀ {u : V} {e : D} {ds : List D}, PRep R H Hh u e → seqD e = some ds → ∃ a vs, u = .ref a ∧ (SqL R.K H a vs ∨ SqT R.K H a vs) ∧ Reps R Hh vs ds := fun {u e ds} hy h => by
    cases e with
    | tup xs =>
      cases h
      obtain ⟨a, vs, q, ha, hv⟩ := hy.tup le
      exact ⟨a, vs, q, .inr ha, hv⟩
    | lst xs =>
      cases h
      obtain ⟨a, vs, q, ha, hv⟩ := hy.lst le
      exact ⟨a, vs, q, .inl (.of ha), hv⟩
    | frz xs =>
      cases h
      obtain ⟨a, vs, q, ha, hv⟩ := hy.frz le
      exact ⟨a, vs, q, .inl ha, hv⟩
    | _ => simp [seqD] at h
  cases o with
  | eq =>
    obtain ⟨h, w⟩ : ((sclD d = true ∧ sclD e = true) ∨ (EqOk d ∧ EqOk e)) ∧ k (eqD d e) := by cases d <;> exact w
    rcases of_eqS hx hy h le with ⟨s1, s2⟩ | ⟨p, q, a, b, c, f, g⟩
    · exact .inl ⟨s1, by rw [s2]; exact hQ _ w⟩
    · exact .inr ⟨p, q, a, b, c, f, by rw [g]; exact hQ _ w⟩
  | ne =>
    obtain ⟨h, w⟩ : ((sclD d = true ∧ sclD e = true) ∨ (EqOk d ∧ EqOk e)) ∧ k (!eqD d e) := by cases d <;> exact w
    rcases of_eqS hx hy h le with ⟨s1, s2⟩ | ⟨p, q, a, b, c, f, g⟩
    · exact .inl ⟨s1, by rw [s2]; exact hQ _ w⟩
    · exact .inr ⟨p, q, a, b, c, f, by rw [g]; exact hQ _ w⟩
  | lt =>
    cases d with
    | int i =>
      cases e with
      | int j => exact .inl ⟨i, j, hx.int, hy.int, hQ _ w⟩
      | _ => exact absurd w (by intro z; exact z)
    | tup xs =>
      cases e with
      | tup ys =>
        obtain ⟨ns, ms, h1, h2, w⟩ := w
        obtain ⟨a, vs, rfl, ha, hv⟩ := hx.tup le
        obtain ⟨b, us, rfl, hb, hu⟩ := hy.tup le
        rw [intsD_eq h1] at hv
        rw [intsD_eq h2] at hu
        have e1 := hv.ints
        have e2 := hu.ints
        subst e1 e2
        exact .inr ⟨a, b, ns, ms, rfl, rfl, ha, hb, hQ _ w⟩
      | _ => exact absurd w (by intro z; exact z)
    | _ => exact absurd w (by intro z; exact z)
  | le =>
    cases d with
    | int i =>
      cases e with
      | int j => exact ⟨i, j, hx.int, hy.int, hQ _ w⟩
      | _ => exact absurd w (by intro z; exact z)
    | _ => exact absurd w (by intro z; exact z)
  | gt =>
    cases d with
    | int i =>
      cases e with
      | int j => exact ⟨i, j, hx.int, hy.int, hQ _ w⟩
      | _ => exact absurd w (by intro z; exact z)
    | _ => exact absurd w (by intro z; exact z)
  | ge =>
    cases d with
    | int i =>
      cases e with
      | int j => exact ⟨i, j, hx.int, hy.int, hQ _ w⟩
      | _ => exact absurd w (by intro z; exact z)
    | _ => exact absurd w (by intro z; exact z)
  | in_ =>
    obtain ⟨ds, h1, h2, h3, w⟩ : ∃ ds, seqD e = some ds ∧ sclD d = true ∧ ds.all sclD = true ∧ k (ds.any fun y => eqD y d) := by cases d <;> exact w
    obtain ⟨a, vs, rfl, ha, hv⟩ := seqs hy h1
    have hx' : Rep R H v d := hx.full le fun vs q => by rw [q] at h2; simp [sclD] at h2
    have hv' := hv.mono le
    exact ⟨a, vs, rfl, ha, scl_flat hx' h2, scl_all hv' h3, by rw [scl_any hx' h2 hv' h3]; exact hQ _ w⟩
  | nin =>
    obtain ⟨ds, h1, h2, h3, w⟩ : ∃ ds, seqD e = some ds ∧ sclD d = true ∧ ds.all sclD = true ∧ k (!ds.any fun y => eqD y d) := by cases d <;> exact w
    obtain ⟨a, vs, rfl, ha, hv⟩ := seqs hy h1
    have hx' : Rep R H v d := hx.full le fun vs q => by rw [q] at h2; simp [sclD] at h2
    have hv' := hv.mono le
    exact ⟨a, vs, rfl, ha, scl_flat hx' h2, scl_all hv' h3, by rw [scl_any hx' h2 hv' h3]; exact hQ _ w⟩
end
end Pd

/-! Items, slices, built-ins, methods: by values. -/
namespace Pd
open L2 PyProof.Rows PySem.Spec PySem
section
variable {R : RC} {Z : Addr → Prop} {H0 : Hp} {io : Option (Nat × Addr)} {σ : Sg} {H : Hp} {env : Loca}

theorem Reps.atI {H : Hp} {vs : List V} {ds : List D} {i : Int} {d : D} (r : Reps R H vs ds) (h : atI ds i = some d) : ∃ v, L2.atI vs i = some v ∧ Rep R H v d := by
  obtain ⟨j, h1, h2, h3, _⟩ := Option.bind_eq_some_iff.mp h |>.elim fun j hj => (⟨j, hj.1, hj.2, trivial, trivial⟩ : ∃ j, ixN ds.length i = some j ∧ ds[j]? = some d ∧ True ∧ True)
  obtain ⟨v, e, q⟩ := r.getD h2
  refine ⟨v, ?_, q⟩
  unfold L2.atI
  rw [r.length, h1]
  exact e
theorem of_ix {x y : V} {d e : D} {Q : VK} {k : D → Prop} (r : ER R Z H0 io σ H env) (hx : Pr R Z σ H env x d) (hy : Pr R Z σ H env y e) (w : wIx d e k)
    (hQ : ∀ g v, k g → Rep R (hid Z σ env H) v g → Q v H) : rIx R.K x y H Q := by
  cases d with
  | tup xs =>
    cases e with
    | int i =>
      obtain ⟨g, h, w⟩ := w
      obtain ⟨a, vs, rfl, ha, hv⟩ := hx.tup hid_le
      obtain ⟨v, h1, h2⟩ := hv.atI h
      exact .inr (.inl ⟨a, vs, i, v, rfl, hy.int, ha, h1, hQ _ _ w h2⟩)
    | _ => exact absurd w (by intro z; exact z)
  | lst xs =>
    cases e with
    | int i =>
      obtain ⟨g, h, w⟩ := w
      obtain ⟨a, vs, rfl, ha, hv⟩ := hx.lst hid_le
      obtain ⟨v, h1, h2⟩ := hv.atI h
      exact .inl ⟨a, vs, i, v, rfl, hy.int, .of ha, h1, hQ _ _ w h2⟩
    | _ => exact absurd w (by intro z; exact z)
  | frz xs =>
    cases e with
    | int i =>
      obtain ⟨g, h, w⟩ := w
      obtain ⟨a, vs, rfl, ha, hv⟩ := hx.frz hid_le
      obtain ⟨v, h1, h2⟩ := hv.atI h
      exact .inl ⟨a, vs, i, v, rfl, hy.int, ha, h1, hQ _ _ w h2⟩
    | _ => exact absurd w (by intro z; exact z)
  | str s =>
    cases e with
    | int i =>
      obtain ⟨h0, c, h, w⟩ := w
      exact .inr (.inr ⟨s, i, c, hx.str, hy.int, h0, h, hQ _ _ w (.str _)⟩)
    | _ => exact absurd w (by intro z; exact z)
  | _ => exact absurd w (by intro z; exact z)
theorem Reps.cut {H : Hp} {vs : List V} {ds : List D} (r : Reps R H vs ds) (lo hi : Option Int) : Reps R H (cutV vs lo hi) (cutD ds lo hi) := by
  unfold cutV cutD
  rw [r.length]
  exact (r.drop _).take _
theorem cutD_whole {ds : List D} {lo hi : Option Int} (h : HT.sIx ds.length 0 lo = 0 ∧ HT.sIx ds.length ds.length hi = ds.length) : cutD ds lo hi = ds := by
  unfold cutD
  rw [h.1, h.2]
  simp
def rSlD (K : PySem.W.Frag) : V → Option Int → Option Int → Hp → VK → Prop := fun x lo hi H Q => rSlL K x lo hi H Q ∨ rSlA K x lo hi H Q
theorem sl_D {X : Cx} : SlR X (rSlD X.K) := sl_list.or sl_tupA
theorem of_slc {x : V} {d : D} {lo hi : Option Int} {Q : VK} {k : D → Prop} (r : ER R Z H0 io σ H env) (hx : Pr R Z σ H env x d) (w : wSlc d lo hi k)
    (hQ : ∀ g v H', k g → Ans R Z H0 io σ H env true g v H' → Q v H') : rSlD R.K x lo hi H Q := by
  cases d with
  | tup xs =>
    obtain ⟨a, vs, rfl, ha, hv⟩ := hx.tup hid_le
    refine .inr ⟨a, vs, rfl, ha, fun h => ?_, fun _ p hp => hQ _ _ _ w (.newTup r hp (hv.cut lo hi))⟩
    have w' : k (.tup (cutD xs lo hi)) := w
    rw [cutD_whole (by rw [← hv.length]; exact h)] at w'
    exact hQ _ _ _ w' (.flat r (match hx with | .rep q => q | .own q => nomatch q) fun _ => rfl)
  | lst xs =>
    obtain ⟨a, vs, rfl, ha, hv⟩ := hx.lst hid_le
    exact .inl ⟨a, vs, rfl, .of ha, fun p hp => hQ _ _ _ w (.newLst r hp (hv.cut lo hi))⟩
  | frz xs =>
    obtain ⟨a, vs, rfl, ha, hv⟩ := hx.frz hid_le
    exact .inl ⟨a, vs, rfl, ha, fun p hp => hQ _ _ _ w (.newLst r hp (hv.cut lo hi))⟩
  | _ => exact absurd w (by intro z; exact z)

/-! ### built-ins -/
inductive PReps (R : RC) (H Hh : Hp) : List V → List D → Prop
  | nil : PReps R H Hh [] []
  | cons {v : V} {d : D} {vs : List V} {ds : List D} : PRep R H Hh v d → PReps R H Hh vs ds → PReps R H Hh (v :: vs) (d :: ds)
/-- the machine's name of a built-in: a function or a type -/
def bfName : BF → Str
  | .len => "len"
  | .abs => "abs"
  | .max => "max"
  | .min => "min"
  | .int => "int"
  | .str => "str"
  | .tuple => "tuple"
  | .list => "list"
  | .sum => "sum"
  | .all => "all"
  | .any => "any"
  | .sorted => "sorted"
  | .bool => "bool"
def bfVal : BF → Value
  | .len => .builtin "len"
  | .abs => .builtin "abs"
  | .max => .builtin "max"
  | .min => .builtin "min"
  | .int => .type "int"
  | .str => .type "str"
  | .tuple => .type "tuple"
  | .list => .type "list"
  | .sum => .builtin "sum"
  | .all => .builtin "all"
  | .any => .builtin "any"
  | .sorted => .builtin "sorted"
  | .bool => .type "bool"
theorem bf_boot : ∀ f : BF, bootBuiltins (bfName f) = some (bfVal f)
  | .len => by decide +kernel
  | .abs => by decide +kernel
  | .max => by decide +kernel
  | .min => by decide +kernel
  | .int => by decide +kernel
  | .str => by decide +kernel
  | .tuple => by decide +kernel
  | .list => by decide +kernel
  | .sum => by decide +kernel
  | .all => by decide +kernel
  | .any => by decide +kernel
  | .sorted => by decide +kernel
  | .bool => by decide +kernel
theorem bf_ne : ∀ f : BF, bfName f ≠ "__name__" ∧ (bfName f == ("__debug__" : Str)) = false
  | .len => by decide
  | .abs => by decide
  | .max => by decide
  | .min => by decide
  | .int => by decide
  | .str => by decide
  | .tuple => by decide
  | .list => by decide
  | .sum => by decide
  | .all => by decide
  | .any => by decide
  | .sorted => by decide
  | .bool => by decide
abbrev RBl := List V → Hp → VK → Prop
def rBltD (K : PySem.W.Frag) : BF → RBl
  | .len => fun xs H Q => ∃ x n, xs = [x] ∧ LenV K x H n ∧ Q (.int n) H
  | .abs => fun xs H Q => ∃ i, xs = [.int i] ∧ Q (.int (if i < 0 then -i else i)) H
  | .max => fun xs H Q => (∃ i j, xs = [.int i, .int j] ∧ Q (.int (if j > i then j else i)) H) ∨ rMax K xs H Q
  | .min => fun xs H Q => (∃ i j, xs = [.int i, .int j] ∧ Q (.int (if j < i then j else i)) H) ∨ rMin K xs H Q
  | .int => fun xs H Q => (∃ i, xs = [.int i] ∧ Q (.int i) H) ∨ ∃ k, xs = [.bl k] ∧ Q (.int (if k then 1 else 0)) H
  | .str => fun xs H Q => ∃ i, xs = [.int i] ∧ i.natAbs.log2 < 1920 ∧ Q (.str (toString i)) H
  | .tuple => fun xs H Q => ∃ p ys, xs = [.ref p] ∧ ((SqL K H p ys ∧ ∀ l, H l = none → Q (.ref l) (upd H l (.tup ys))) ∨ (SqT K H p ys ∧ Q (.ref p) H))
  | .list => fun xs H Q => ∃ p ys, xs = [.ref p] ∧ (SqL K H p ys ∨ SqT K H p ys) ∧ ∀ l, H l = none → Q (.ref l) (upd H l (.lst ys))
  | .sum => rSum K
  | .all => rAll K
  | .any => rAny K
  | .sorted => fun _ _ _ => False
  | .bool => fun xs H Q => (∃ i, xs = [.int i] ∧ Q (.bl (i != 0)) H) ∨ ∃ k, xs = [.bl k] ∧ Q (.bl k) H
theorem call_D {X : Cx} (hc : X.calm = true) : ∀ f : BF, CallR X (bfVal f) (rBltD X.K f)
  | .len => call_len
  | .abs => call_abs
  | .max => (call_max2 hc).or (cr_max hc)
  | .min => (call_min2 hc).or (cr_min hc)
  | .int => call_int1
  | .str => call_str_int
  | .tuple => call_tuple_of
  | .list => call_list_of
  | .sum => cr_sum hc
  | .all => cr_all hc
  | .any => cr_any hc
  | .sorted => fun _ _ _ _ _ _ _ _ _ h => h.elim
  | .bool => call_bool1
theorem of_one {f : D → (D → Prop) → Prop} {H Hh : Hp} {xs : List V} {ds : List D} {k : D → Prop} (hx : PReps R H Hh xs ds) (w : one1 f ds k) : ∃ v d, xs = [v] ∧ PRep R H Hh v d ∧ f d k := by
  match ds, hx, w with
  | [_], .cons h .nil, w => exact ⟨_, _, rfl, h, w⟩
theorem of_blt {f : BF} {xs : List V} {ds : List D} {Q : VK} {k : D → Prop} (r : ER R Z H0 io σ H env) (hx : PReps R H (hid Z σ env H) xs ds) (w : wBlt f ds k)
    (hQ : ∀ g v H', k g → Ans R Z H0 io σ H env (frF f) g v H' → Q v H') : rBltD R.K f xs H Q := by
  cases f with
  | len =>
    obtain ⟨v, d, rfl, h, w⟩ := of_one hx w
    cases d with
    | tup ys =>
      obtain ⟨a, vs, rfl, ha, hv⟩ := h.tup hid_le
      exact ⟨_, vs.length, rfl, .inr ⟨vs, ha, rfl⟩, by rw [hv.length]; exact hQ _ _ _ w (.flat r (.int _) fun _ => rfl)⟩
    | lst ys =>
      obtain ⟨a, vs, rfl, ha, hv⟩ := h.lst hid_le
      exact ⟨_, vs.length, rfl, .inl ⟨vs, .of ha, rfl⟩, by rw [hv.length]; exact hQ _ _ _ w (.flat r (.int _) fun _ => rfl)⟩
    | frz ys =>
      obtain ⟨a, vs, rfl, ha, hv⟩ := h.frz hid_le
      exact ⟨_, vs.length, rfl, .inl ⟨vs, ha, rfl⟩, by rw [hv.length]; exact hQ _ _ _ w (.flat r (.int _) fun _ => rfl)⟩
    | str s =>
      cases h.str
      exact ⟨_, s.length, rfl, ⟨w.1, rfl⟩, hQ _ _ _ w.2 (.flat r (.int _) fun _ => rfl)⟩
    | _ => exact absurd w (by intro z; exact z)
  | abs =>
    obtain ⟨v, d, rfl, h, w⟩ := of_one hx w
    cases d with
    | int i =>
      cases h.int
      exact ⟨_, rfl, hQ _ _ _ w (.flat r (.int _) fun _ => rfl)⟩
    | _ => exact absurd w (by intro z; exact z)
  | max =>
    match ds, hx, w with
    | [.int _, .int _], .cons h (.cons h2 .nil), w =>
      cases h.int
      cases h2.int
      exact .inl ⟨_, _, rfl, hQ _ _ _ w (.flat r (.int _) fun _ => rfl)⟩
    | [.lst ys], .cons h .nil, w =>
      obtain ⟨ns, e, hn, w⟩ := w
      rw [intsD_eq e] at h
      obtain ⟨a, vs, rfl, ha, hv⟩ := h.lst hid_le
      have ev := hv.ints
      subst ev
      exact .inr ⟨a, ns, rfl, .of ha, hn, fun m h1 h2 => hQ _ _ _ (w m h1 h2) (.flat r (.int _) fun _ => rfl)⟩
  | min =>
    match ds, hx, w with
    | [.int _, .int _], .cons h (.cons h2 .nil), w =>
      cases h.int
      cases h2.int
      exact .inl ⟨_, _, rfl, hQ _ _ _ w (.flat r (.int _) fun _ => rfl)⟩
    | [.lst ys], .cons h .nil, w =>
      obtain ⟨ns, e, hn, w⟩ := w
      rw [intsD_eq e] at h
      obtain ⟨a, vs, rfl, ha, hv⟩ := h.lst hid_le
      have ev := hv.ints
      subst ev
      exact .inr ⟨a, ns, rfl, .of ha, hn, fun m h1 h2 => hQ _ _ _ (w m h1 h2) (.flat r (.int _) fun _ => rfl)⟩
  | int =>
    obtain ⟨v, d, rfl, h, w⟩ := of_one hx w
    cases d with
    | int i =>
      cases h.int
      exact .inl ⟨_, rfl, hQ _ _ _ w (.flat r (.int _) fun _ => rfl)⟩
    | bl i =>
      cases h.bl
      exact .inr ⟨_, rfl, hQ _ _ _ w (.flat r (.int _) fun _ => rfl)⟩
    | _ => exact absurd w (by intro z; exact z)
  | bool =>
    obtain ⟨v, d, rfl, h, w⟩ := of_one hx w
    cases d with
    | int i =>
      cases h.int
      exact .inl ⟨_, rfl, hQ _ _ _ w (.flat r (.bl _) fun _ => rfl)⟩
    | bl i =>
      cases h.bl
      exact .inr ⟨_, rfl, hQ _ _ _ w (.flat r (.bl _) fun _ => rfl)⟩
    | _ => exact absurd w (by intro z; exact z)
  | str =>
    obtain ⟨v, d, rfl, h, w⟩ := of_one hx w
    cases d with
    | int i =>
      cases h.int
      exact ⟨_, rfl, w.1, hQ _ _ _ w.2 (.flat r (.str _) fun _ => rfl)⟩
    | _ => exact absurd w (by intro z; exact z)
  | tuple =>
    obtain ⟨v, d, rfl, h, w⟩ := of_one hx w
    cases d with
    | tup ys =>
      have q : Rep R (hid Z σ env H) v (.tup ys) := match h with | .rep q => q | .own q => nomatch q
      obtain ⟨a, vs, rfl, ha, hv⟩ := h.tup hid_le
      exact ⟨a, vs, rfl, .inr ⟨ha, hQ _ _ _ w (.flat r q fun _ => rfl)⟩⟩
    | lst ys =>
      obtain ⟨a, vs, rfl, ha, hv⟩ := h.lst hid_le
      exact ⟨a, vs, rfl, .inl ⟨.of ha, fun p hp => hQ _ _ _ w (.newTup r hp hv)⟩⟩
    | frz ys =>
      obtain ⟨a, vs, rfl, ha, hv⟩ := h.frz hid_le
      exact ⟨a, vs, rfl, .inl ⟨ha, fun p hp => hQ _ _ _ w (.newTup r hp hv)⟩⟩
    | _ => exact absurd w (by intro z; exact z)
  | list =>
    obtain ⟨v, d, rfl, h, w⟩ := of_one hx w
    cases d with
    | tup ys =>
      obtain ⟨a, vs, rfl, ha, hv⟩ := h.tup hid_le
      exact ⟨a, vs, rfl, .inr ha, fun p hp => hQ _ _ _ w (.newLst r hp hv)⟩
    | lst ys =>
      obtain ⟨a, vs, rfl, ha, hv⟩ := h.lst hid_le
      exact ⟨a, vs, rfl, .inl (.of ha), fun p hp => hQ _ _ _ w (.newLst r hp hv)⟩
    | frz ys =>
      obtain ⟨a, vs, rfl, ha, hv⟩ := h.frz hid_le
      exact ⟨a, vs, rfl, .inl ha, fun p hp => hQ _ _ _ w (.newLst r hp hv)⟩
    | _ => exact absurd w (by intro z; exact z)
  | sum =>
    obtain ⟨v, d, rfl, h, w⟩ := of_one hx w
    cases d with
    | lst ys =>
      obtain ⟨ns, e, w⟩ := w
      rw [intsD_eq e] at h
      obtain ⟨a, vs, rfl, ha, hv⟩ := h.lst hid_le
      have ev := hv.ints
      subst ev
      exact ⟨a, ns, rfl, .of ha, hQ _ _ _ w (.flat r (.int _) fun _ => rfl)⟩
    | _ => exact absurd w (by intro z; exact z)
  | all =>
    obtain ⟨v, d, rfl, h, w⟩ := of_one hx w
    cases d with
    | lst ys =>
      obtain ⟨ns, e, w⟩ := w
      rw [blsD_eq e] at h
      obtain ⟨a, vs, rfl, ha, hv⟩ := h.lst hid_le
      have ev := hv.bls
      subst ev
      exact ⟨a, ns, rfl, .of ha, hQ _ _ _ w (.flat r (.bl _) fun _ => rfl)⟩
    | _ => exact absurd w (by intro z; exact z)
  | any =>
    obtain ⟨v, d, rfl, h, w⟩ := of_one hx w
    cases d with
    | lst ys =>
      obtain ⟨ns, e, w⟩ := w
      rw [blsD_eq e] at h
      obtain ⟨a, vs, rfl, ha, hv⟩ := h.lst hid_le
      have ev := hv.bls
      subst ev
      exact ⟨a, ns, rfl, .of ha, hQ _ _ _ w (.flat r (.bl _) fun _ => rfl)⟩
    | _ => exact absurd w (by intro z; exact z)
  | sorted => exact absurd w (by intro z; exact z)

/-! ### isinstance -/
def tyName : TyN → Str
  | .int => "int"
  | .bool => "bool"
  | .str => "str"
  | .tuple => "tuple"
  | .list => "list"
def tyStr : TyN → String
  | .int => "int"
  | .bool => "bool"
  | .str => "str"
  | .tuple => "tuple"
  | .list => "list"
theorem ty_boot : ∀ t : TyN, bootBuiltins (tyName t) = some (.type (tyStr t))
  | .int => by decide +kernel
  | .bool => by decide +kernel
  | .str => by decide +kernel
  | .tuple => by decide +kernel
  | .list => by decide +kernel
theorem ty_ne : ∀ t : TyN, tyName t ≠ "__name__" ∧ (tyName t == ("__debug__" : Str)) = false
  | .int => by decide
  | .bool => by decide
  | .str => by decide
  | .tuple => by decide
  | .list => by decide
def dTy : D → String
  | .non => "NoneType"
  | .bl _ => "bool"
  | .int _ => "int"
  | .str _ => "str"
  | .tup _ => "tuple"
  | .lst _ => "list"
  | .frz _ => "list"
  | .dk _ _ => "dict"
  | _ => ""
theorem kit_D (K : PySem.W.Frag) {d : D} (h : hasTy d = true) (t : TyN) : PySem.W.kitOne K (.type (dTy d)) (.type (tyStr t)) = some (tyIs d t) := by
  have k : ∀ (a : String) (b : Bool), dTy d = a → (kitB a (tyStr t) = some b) → tyIs d t = b → PySem.W.kitOne K (.type (dTy d)) (.type (tyStr t)) = some (tyIs d t) := fun a b h1 h2 h3 => by
    rw [h1, h3]
    exact kit_ty h2
  cases d with
  | non => cases t with
    | int => exact k "NoneType" false rfl (by decide +kernel) rfl
    | bool => exact k "NoneType" false rfl (by decide +kernel) rfl
    | str => exact k "NoneType" false rfl (by decide +kernel) rfl
    | tuple => exact k "NoneType" false rfl (by decide +kernel) rfl
    | list => exact k "NoneType" false rfl (by decide +kernel) rfl
  | bl b => cases t with
    | int => exact k "bool" true rfl (by decide +kernel) rfl
    | bool => exact k "bool" true rfl (by decide +kernel) rfl
    | str => exact k "bool" false rfl (by decide +kernel) rfl
    | tuple => exact k "bool" false rfl (by decide +kernel) rfl
    | list => exact k "bool" false rfl (by decide +kernel) rfl
  | int i => cases t with
    | int => exact k "int" true rfl (by decide +kernel) rfl
    | bool => exact k "int" false rfl (by decide +kernel) rfl
    | str => exact k "int" false rfl (by decide +kernel) rfl
    | tuple => exact k "int" false rfl (by decide +kernel) rfl
    | list => exact k "int" false rfl (by decide +kernel) rfl
  | str s => cases t with
    | int => exact k "str" false rfl (by decide +kernel) rfl
    | bool => exact k "str" false rfl (by decide +kernel) rfl
    | str => exact k "str" true rfl (by decide +kernel) rfl
    | tuple => exact k "str" false rfl (by decide +kernel) rfl
    | list => exact k "str" false rfl (by decide +kernel) rfl
  | tup s => cases t with
    | int => exact k "tuple" false rfl (by decide +kernel) rfl
    | bool => exact k "tuple" false rfl (by decide +kernel) rfl
    | str => exact k "tuple" false rfl (by decide +kernel) rfl
    | tuple => exact k "tuple" true rfl (by decide +kernel) rfl
    | list => exact k "tuple" false rfl (by decide +kernel) rfl
  | lst s => cases t with
    | int => exact k "list" false rfl (by decide +kernel) rfl
    | bool => exact k "list" false rfl (by decide +kernel) rfl
    | str => exact k "list" false rfl (by decide +kernel) rfl
    | tuple => exact k "list" false rfl (by decide +kernel) rfl
    | list => exact k "list" true rfl (by decide +kernel) rfl
  | dk s v => cases t with
    | int => exact k "dict" false rfl (by decide +kernel) rfl
    | bool => exact k "dict" false rfl (by decide +kernel) rfl
    | str => exact k "dict" false rfl (by decide +kernel) rfl
    | tuple => exact k "dict" false rfl (by decide +kernel) rfl
    | list => exact k "dict" false rfl (by decide +kernel) rfl
  | frz s => simp [hasTy] at h
  | fn s => simp [hasTy] at h
  | ins s v => simp [hasTy] at h
theorem of_ty {H Hh : Hp} (le : Same Hh H) {v : V} {d : D} (hx : PRep R H Hh v d) (h : hasTy d = true) : TyX R.K H v (.type (dTy d)) := by
  cases d with
  | non => cases hx.non; exact .base .non
  | bl b => cases hx.bl; exact .base (.bl b)
  | int i => cases hx.int; exact .base (.int i)
  | str s => cases hx.str; exact .base (.str s)
  | tup xs =>
    obtain ⟨a, vs, rfl, ha, hv⟩ := hx.tup le
    rcases ha with (ha | ⟨o, ha⟩) | ⟨o, its, n, hk, hc, _⟩
    · exact .base (.tup ha)
    · exact .fTuple ha
    · exact .kTuple hk hc
  | lst xs =>
    obtain ⟨a, vs, rfl, ha, hv⟩ := hx.lst le
    exact .base (.lst ha)
  | dk ks vs =>
    cases hx.full le (fun _ q => by cases q) with
    | dk ha _ => exact .base (.dK ha)
  | frz s => simp [hasTy] at h
  | fn s => simp [hasTy] at h
  | ins s v => simp [hasTy] at h
end
end Pd

/-! That a Python term is said by the short syntax; what the readings are. -/
namespace Pd
open L2 PyProof.Rows PySem.Spec PySem

/-! ### scopes -/
def visC (sc : Scope) (x : Str) : Bool := (match sc.names.lookup x with
  | some .local => true
  | some .cell => true
  | some .free => true
  | _ => false) && !(x == ("__debug__" : Str)) && !(x == ("__classdict__" : Str))
def locC (sc : Scope) (x : Str) : Bool := (match sc.names.lookup x with
  | some .local => true
  | some .cell => true
  | _ => false)
def glC (sc : Scope) (x : Str) : Bool := (match sc.names.lookup x with
  | some .globalImplicit => true
  | _ => false) && !(x == ("__debug__" : Str))
theorem visC_ok {sc : Scope} {x : Str} (h : visC sc x = true) : Vis sc x ∧ (x == ("__debug__" : Str)) = false ∧ (x == ("__classdict__" : Str)) = false := by
  unfold visC at h
  simp only [Bool.and_eq_true, Bool.not_eq_true'] at h
  obtain ⟨⟨h1, h2⟩, h3⟩ := h
  refine ⟨?_, h2, h3⟩
  split at h1
  · exact .inl (by assumption)
  · exact .inr (.inl (by assumption))
  · exact .inr (.inr (by assumption))
  · cases h1
theorem locC_ok {sc : Scope} {x : Str} (h : locC sc x = true) : Loc sc x := by
  unfold locC at h
  split at h
  · exact .inl (by assumption)
  · exact .inr (by assumption)
  · cases h
theorem glC_ok {sc : Scope} {x : Str} (h : glC sc x = true) : sc.names.lookup x = some .globalImplicit ∧ (x == ("__debug__" : Str)) = false := by
  unfold glC at h
  simp only [Bool.and_eq_true, Bool.not_eq_true'] at h
  obtain ⟨h1, h2⟩ := h
  refine ⟨?_, h2⟩
  split at h1
  · assumption
  · cases h1

/-! ### terms -/
structure Mx where
  tb : Tb
  k : Nat
  N : List Str
  gi : Str → Option Int
def opB : BO → Operator → Bool
  | .add, .Add => true
  | .sub, .Sub => true
  | .mul, .Mult => true
  | .fdiv, .FloorDiv => true
  | .mod, .Mod => true
  | _, _ => false
theorem opB_ok {o : BO} {p : Operator} (h : opB o p = true) : p = boOp o := by
  cases o <;> cases p <;> first | rfl | (simp [opB] at h)
def opC : CO → CmpOp → Bool
  | .eq, .Eq => true
  | .ne, .NotEq => true
  | .lt, .Lt => true
  | .le, .LtE => true
  | .gt, .Gt => true
  | .ge, .GtE => true
  | .in_, .In => true
  | .nin, .NotIn => true
  | _, _ => false
theorem opC_ok {o : CO} {p : CmpOp} (h : opC o p = true) : p = coOp o := by
  cases o <;> cases p <;> first | rfl | (simp [opC] at h)
def notSet : Expr → Bool
  | .Set .. => false
  | _ => true
theorem notSet_mark {e : Expr} (h : notSet e = true) (op : CmpOp) : behindInMarks op e = false := by
  cases e <;> first | rfl | (simp [notSet] at h)
/-- names of slots -/
def mNames (N : List Str) (sc : Scope) : List Nat → List Expr → Bool
  | [], [] => true
  | i :: is, .Name x _ :: es => decide (N[i]? = some x) && locC sc x && mNames N sc is es
  | _, _ => false
def ownOf : List Nat → List Expr → List (Str × Nat)
  | i :: is, .Name x _ :: es => (x, i) :: ownOf is es
  | _, _ => []
def tgNames (tp : Bool) (tg : Expr) : List Expr := match tp, tg with
  | false, e => [e]
  | true, .Tuple es _ _ => es
  | true, _ => []
def mTgt (N : List Str) (sc : Scope) (is : List Nat) (tp : Bool) (tg : Expr) : Bool := (match tp, tg with
  | false, .Name .. => is.length == 1
  | true, .Tuple .. => true
  | _, _ => false) && mNames N sc is (tgNames tp tg) && decide is.Nodup

/-- an expression whose truth is its value's -/
def tstOk : Expr → Bool
  | .BoolOp .. => false
  | .IfExp .. => false
  | .UnaryOp .Not _ _ => false
  | _ => true
mutual
def mE (M : Mx) : E → Scope → Expr → Bool
  | .var i, sc, py => match py with
    | .Name x _ => decide (M.N[i]? = some x) && visC sc x
    | _ => false
  | .int i, _, py => match py with
    | .Constant (.int j) _ _ => decide (i = j)
    | _ => false
  | .bl b, _, py => match py with
    | .Constant (.bool c) _ _ => b == c
    | _ => false
  | .non, _, py => match py with
    | .Constant .none _ _ => true
    | _ => false
  | .str s, _, py => match py with
    | .Constant (.str t) _ _ => decide (s = t)
    | _ => false
  | .fnv n, sc, py => match py with
    | .Name x _ => decide (M.tb.fnm n = x) && glC sc x && decide (M.tb.lv n < M.k)
    | _ => false
  | .gint x i, sc, py => match py with
    | .Name y _ => decide (x = y) && glC sc x && decide (M.gi x = some i)
    | _ => false
  | .bin o a b, sc, py => match py with
    | .BinOp pa op pb _ => opB o op && mE M a sc pa && mE M b sc pb
    | _ => false
  | .neg a, sc, py => match py with
    | .UnaryOp .USub pa _ => mE M a sc pa
    | _ => false
  | .not a, sc, py => match py with
    | .UnaryOp .Not pa _ => mE M a sc pa
    | _ => false
  | .cmp o a b, sc, py => match py with
    | .Compare pa [op] [pb] _ => opC o op && mE M a sc pa && mE M b sc pb && notSet pb
    | _ => false
  | .chn o o' a b c, sc, py => match py with
    | .Compare pa [op, op'] [pb, pc] _ => opC o op && opC o' op' && mE M a sc pa && mE M b sc pb && mE M c sc pc && notSet pb && notSet pc
    | _ => false
  | .isn a, sc, py => match py with
    | .Compare pa [.Is] [.Constant .none _ _] _ => mE M a sc pa
    | _ => false
  | .ntn a, sc, py => match py with
    | .Compare pa [.IsNot] [.Constant .none _ _] _ => mE M a sc pa
    | _ => false
  | .and es, sc, py => match py with
    | .BoolOp .And pes _ => mA M es sc pes && !pes.isEmpty
    | _ => false
  | .or es, sc, py => match py with
    | .BoolOp .Or pes _ => mA M es sc pes && !pes.isEmpty
    | _ => false
  | .ite c a b, sc, py => match py with
    | .IfExp pc pa pb _ => mT M c sc pc && mE M a sc pa && mE M b sc pb
    | _ => false
  | .tup es, sc, py => match py with
    | .Tuple pes _ _ => mA M es sc pes && decide (pes.length ≤ 1000)
    | _ => false
  | .lst es, sc, py => match py with
    | .List pes _ => mA M es sc pes && decide (pes.length ≤ 1000)
    | _ => false
  | .call n es, sc, py => match py with
    | .Call (.Name x _) pes [] _ => decide (M.tb.fnm n = x) && glC sc x && mA M es sc pes && decide (M.tb.lv n < M.k) && !M.tb.io n
    | _ => false
  | .cio n i es, sc, py => match py with
    | .Call (.Name x _) (.Name y _ :: pes) [] _ => decide (M.tb.fnm n = x) && glC sc x && decide (M.N[i]? = some y) && visC sc y && mA M es sc pes && decide (M.tb.lv n < M.k) && M.tb.io n && !M.tb.fr n
    | _ => false
  | .clv i es, sc, py => match py with
    | .Call (.Name x _) pes [] _ => decide (M.N[i]? = some x) && visC sc x && mA M es sc pes && !pes.isEmpty
    | _ => false
  | .blt f es, sc, py => match py with
    | .Call (.Name x _) pes [] _ => decide (bfName f = x) && glC sc x && mA M es sc pes && !pes.isEmpty
    | _ => false
  | .isi a T, sc, py => match py with
    | .Call (.Name x _) [pa, .Name t _] [] _ => decide (x = ("isinstance" : Str)) && glC sc x && mE M a sc pa && decide (t = tyName T) && glC sc t
    | _ => false
  | .ix a b, sc, py => match py with
    | .Subscript pa pb _ => mE M a sc pa && mE M b sc pb
    | _ => false
  | .slc a lo hi, sc, py => match py with
    | .Subscript pa (.Slice plo phi none _) _ => mE M a sc pa && mA M lo sc plo.toList && mA M hi sc phi.toList
    | _ => false
  | .rev a, sc, py => match py with
    | .Subscript pa (.Slice none none (some (.UnaryOp .USub (.Constant (.int 1) _ _) _)) _) _ => mE M a sc pa
    | _ => false
  | .lrng es, sc, py => match py with
    | .Call (.Name x _) [.Call (.Name y _) pes [] _] [] _ => decide (x = ("list" : Str)) && glC sc x && decide (y = ("range" : Str)) && glC sc y && mA M es sc pes && (pes.length == 1 || pes.length == 2)
    | _ => false
  | .lc is tp it c elt, sc, py => match py with
    | .ListComp pelt [⟨tg, piter, ifs, 0⟩] scope _ => mTgt M.N scope is tp tg && blkC M.N sc scope (ownOf is (tgNames tp tg)) && mI M it sc piter && mC M c (relS scope sc) ifs &&
        mE M elt (relS scope sc) pelt
    | _ => false
  | .met _ _ _, _, _ => false
  | .nil, _, _ => false
  | .cons _ _, _, _ => false
  | .tst _, _, _ => false
  | .rng _, _, _ => false
  | .seq _, _, _ => false
termination_by structural e => e
/-- lists of values -/
def mA (M : Mx) : E → Scope → List Expr → Bool
  | .nil, _, pes => pes.isEmpty
  | .cons e es, sc, pes => match pes with
    | p :: ps => mE M e sc p && mA M es sc ps
    | [] => false
  | _, _, _ => false
termination_by structural e => e
/-- the test of a comprehension, or none -/
def mC (M : Mx) : E → Scope → List Expr → Bool
  | .nil, _, pes => pes.isEmpty
  | .tst e, sc, pes => match pes with
    | [p] => tstOk p && mE M e sc p
    | _ => false
  | _, _, _ => false
termination_by structural e => e
def mT (M : Mx) : E → Scope → Expr → Bool
  | .tst e, sc, py => tstOk py && mE M e sc py
  | .not a, sc, py => match py with
    | .UnaryOp .Not pa _ => mT M a sc pa
    | _ => false
  | .and es, sc, py => match py with
    | .BoolOp .And pes _ => mTs M es sc pes && !pes.isEmpty
    | _ => false
  | .or es, sc, py => match py with
    | .BoolOp .Or pes _ => mTs M es sc pes && !pes.isEmpty
    | _ => false
  | _, _, _ => false
termination_by structural e => e
def mTs (M : Mx) : E → Scope → List Expr → Bool
  | .nil, _, pes => pes.isEmpty
  | .cons e es, sc, pes => match pes with
    | p :: ps => mT M e sc p && mTs M es sc ps
    | [] => false
  | _, _, _ => false
termination_by structural e => e
def mI (M : Mx) : E → Scope → Expr → Bool
  | .rng es, sc, py => match py with
    | .Call (.Name y _) pes [] _ => decide (y = ("range" : Str)) && glC sc y && mA M es sc pes && (pes.length == 1 || pes.length == 2)
    | _ => false
  | .seq e, sc, py => notSet py && mE M e sc py
  | _, _, _ => false
termination_by structural e => e
end
end Pd

/-! Readings over data, and that they are readings of the terms: expressions. -/
namespace Pd
open L2 PyProof.Rows PySem.Spec PySem

abbrev rcOf (G : Gx) (X : Cx) : RC := ⟨X.K, X.mg, G.tb.fnm, fun _ => ("" : Str), fun _ => []⟩
abbrev mxOf (G : Gx) (gi : Str → Option Int) (X : Cx) : Mx := ⟨G.tb, G.k, X.N, gi⟩
/-- an exception of the program, by its class and its own dict -/
def XRep (mg : Str → Option Value) (H : Hp) (c : Value) (dd : Option Addr) : Exn → Prop
  | .mal => mg "Malformed" = some c ∧ dd = none
  | .ref r => mg "Refused" = some c ∧ ∃ (a : Addr) (fs : List (Str × V)), dd = some a ∧ H a = some (.xd fs) ∧ fs.lookup ("reason" : Str) = some (V.str r)
  | .nt i => mg "NoText" = some c ∧ ∃ (a : Addr) (fs : List (Str × V)), dd = some a ∧ H a = some (.xd fs) ∧ fs.lookup ("at" : Str) = some (V.int i)
/-- the promise of a def, by what is said of data -/
def toSp (R : RC) (io fr : Bool) (S : Spec) : Sp := fun vs H Q E => ∃ (Z : Addr → Prop) (ds : List D) (P : D → D → Prop) (Ex : Exn → Prop), (∀ b, Z b → ∃ o, H b = some o) ∧ S ds P Ex ∧
  (io = false → Reps R (hz Z H) vs ds ∧ (∀ d e v H', P d e → Same H H' → Rep R (hz Z H') v d → (fr = true → isMut d = true → ∃ p, v = .ref p ∧ H p = none ∧ (∃ o, H' p = some o) ∧ RepO R H' (hz (zx Z p) H') p d) → Q v H') ∧
    ∀ x c dd H', Ex x → Same H H' → XRep R.mg H' c dd x → E c dd H') ∧
  (io = true → ∃ a vs' d0 ds', vs = .ref a :: vs' ∧ ds = d0 :: ds' ∧ Z a ∧ RepO R H (hz Z H) a d0 ∧ Reps R (hz Z H) vs' ds' ∧
    (∀ d d1 v H', P d d1 → (∀ b o, b ≠ a → H b = some o → H' b = some o) → Rep R (hz Z H') v d → RepO R H' (hz Z H') a d1 → Q v H') ∧ ∀ x, ¬ Ex x)

/-- what is known of the place where a term stands -/
structure Cok (G : Gx) (gi : Str → Option Int) (X : Cx) (W : WX) : Prop where
  nd : X.N.Nodup
  calm : X.calm = true
  room : ∀ j, j < G.k → Room j X.A
  units : X.A.units + 64 < cLine
  tk : Takes X W
  bf : ∀ f, X.mg (bfName f) = none
  ty : ∀ t, X.mg (tyName t) = none
  isi : X.mg "isinstance" = none
  rng : X.mg "range" = none
  gi : ∀ x i, gi x = some i → ∃ t, X.mg x = some (.int i t)
  fns : ∀ n, G.tb.lv n < G.k → ∃ f fd ps, X.mg (G.tb.fnm n) = some (.ref f) ∧ PySem.W.keepIn X.K (.ref f) = true ∧ FnOk X.prog X.w X.K X.mg X.base (L2.CX X.prog X.w) (G.tb.lv n) f fd ps (toSp (rcOf G X) (G.tb.io n) (G.tb.fr n) (G.sp n)) ∧ Binds X.K fd ps []

/-- the wish about exceptions, from here on -/
abbrev Xq := Exn → Loca → Prop
def Lk (R : RC) (Z : Addr → Prop) (H0 : Hp) (io : Option (Nat × Addr)) (W : WX) (σ : Sg) (H : Hp) (env : Loca) (Xd : Xq) : Prop :=
  ∀ x env' c dd H', ER R Z H0 io σ H' env' → Mono σ H env σ H' env' → XRep R.mg H' c dd x → Xd x env' → W c dd σ H'
theorem Lk.step {R : RC} {Z : Addr → Prop} {H0 : Hp} {io : Option (Nat × Addr)} {W : WX} {σ : Sg} {H H1 : Hp} {env env1 : Loca} {Xd : Xq} (l : Lk R Z H0 io W σ H env Xd) (m : Mono σ H env σ H1 env1) : Lk R Z H0 io W σ H1 env1 Xd :=
  fun x env' c dd H' r n k w => l x env' c dd H' r (m.trans n) k w

def tE (G : Gx) (X : Cx) (W : WX) (e : E) : TE := fun σ H Q => ∃ (Z : Addr → Prop) (H0 : Hp) (io : Option (Nat × Addr)) (env : Loca) (Qd : D → Loca → Prop) (Xd : Xq),
  G.iop = io.map (·.1) ∧ ER (rcOf G X) Z H0 io σ H env ∧ Lk (rcOf G X) Z H0 io W σ H env Xd ∧ wE G e env Qd Xd ∧
  ∀ d env' v H', ER (rcOf G X) Z H0 io σ H' env' → Mono σ H env σ H' env' → Rep (rcOf G X) (hid Z σ env' H') v d →
    (frE G.tb e = true → isMut d = true → ∃ p, v = .ref p ∧ Fri (rcOf G X) Z H0 io H σ H' env' p d) → Qd d env' → Q v H'
def OpR (R : RC) (Z : Addr → Prop) (σ : Sg) (H : Hp) (env : Loca) (v : V) : Op → Prop
  | .dat d => Rep R (hid Z σ env H) v d
  | .slot i => σ[i]? = some (some v)
def tP (G : Gx) (X : Cx) (W : WX) (e : E) : TE := fun σ H Q => ∃ (Z : Addr → Prop) (H0 : Hp) (io : Option (Nat × Addr)) (env : Loca) (Qd : Op → Loca → Prop) (Xd : Xq),
  G.iop = io.map (·.1) ∧ ER (rcOf G X) Z H0 io σ H env ∧ Lk (rcOf G X) Z H0 io W σ H env Xd ∧ pk e (wE G e) env Qd Xd ∧
  ∀ o env' v H', ER (rcOf G X) Z H0 io σ H' env' → Mono σ H env σ H' env' → OpR (rcOf G X) Z σ H' env' v o → Qd o env' → Q v H'
def tA (G : Gx) (X : Cx) (W : WX) (e : E) : TA := fun σ H Q => ∃ (Z : Addr → Prop) (H0 : Hp) (io : Option (Nat × Addr)) (env : Loca) (Qd : List D → Loca → Prop) (Xd : Xq),
  G.iop = io.map (·.1) ∧ ER (rcOf G X) Z H0 io σ H env ∧ Lk (rcOf G X) Z H0 io W σ H env Xd ∧ wA G e env Qd Xd ∧
  ∀ ds env' vs H', ER (rcOf G X) Z H0 io σ H' env' → Mono σ H env σ H' env' → Reps (rcOf G X) (hid Z σ env' H') vs ds → ds.length = lnE e → Qd ds env' → Q vs H'
inductive OpRs (R : RC) (Z : Addr → Prop) (σ : Sg) (H : Hp) (env : Loca) : List V → List Op → Prop
  | nil : OpRs R Z σ H env [] []
  | cons {v : V} {o : Op} {vs : List V} {os : List Op} : OpR R Z σ H env v o → OpRs R Z σ H env vs os → OpRs R Z σ H env (v :: vs) (o :: os)
def tPs (G : Gx) (X : Cx) (W : WX) (e : E) : TA := fun σ H Q => ∃ (Z : Addr → Prop) (H0 : Hp) (io : Option (Nat × Addr)) (env : Loca) (Qd : List Op → Loca → Prop) (Xd : Xq),
  G.iop = io.map (·.1) ∧ ER (rcOf G X) Z H0 io σ H env ∧ Lk (rcOf G X) Z H0 io W σ H env Xd ∧ wP G e env Qd Xd ∧
  ∀ ds env' vs H', ER (rcOf G X) Z H0 io σ H' env' → Mono σ H env σ H' env' → OpRs (rcOf G X) Z σ H' env' vs ds → Qd ds env' → Q vs H'
abbrev Wt := Loca → (Bool → Loca → Prop) → Xq → Prop
def tT (G : Gx) (X : Cx) (W : WX) (f : Wt) : TT := fun σ H Q => ∃ (Z : Addr → Prop) (H0 : Hp) (io : Option (Nat × Addr)) (env : Loca) (Qd : Bool → Loca → Prop) (Xd : Xq),
  G.iop = io.map (·.1) ∧ ER (rcOf G X) Z H0 io σ H env ∧ Lk (rcOf G X) Z H0 io W σ H env Xd ∧ f env Qd Xd ∧
  ∀ d env' H', ER (rcOf G X) Z H0 io σ H' env' → Mono σ H env σ H' env' → Qd d env' → Q d H'

theorem _root_.L2.PE.imp {X : Cx} {e : Expr} {t t' : TE} (h : PE X e t) (i : ∀ σ H Q, t' σ H Q → t σ H Q) : PE X e t' := ⟨fun pins s σ H Q I w => h.run pins s σ H Q I (i σ H Q w)⟩
theorem _root_.L2.PT.imp {X : Cx} {e : Expr} {t t' : TT} (h : PT X e t) (i : ∀ σ H Q, t' σ H Q → t σ H Q) : PT X e t' := ⟨fun pins s σ H Q I w => h.run pins s σ H Q I (i σ H Q w)⟩
theorem _root_.L2.PA.imp {X : Cx} {e : List Expr} {t t' : TA} (h : PA X e t) (i : ∀ σ H Q, t' σ H Q → t σ H Q) : PA X e t' := ⟨fun pos pins s σ H Q I w => h.run pos pins s σ H Q I (i σ H Q w)⟩
theorem _root_.L2.PS.imp {X : Cx} {e : Stmt} {t t' : TS} (h : PS X e t) (i : ∀ D σ H, t' D σ H → t D σ H) : PS X e t' := ⟨fun pins s σ H Q I w => h.run pins s σ H Q I (i Q σ H w)⟩
theorem _root_.L2.PSs.imp {X : Cx} {e : List Stmt} {t t' : TS} (h : PSs X e t) (i : ∀ D σ H, t' D σ H → t D σ H) : PSs X e t' := ⟨fun pins s σ H Q I w => h.run pins s σ H Q I (i Q σ H w)⟩

/-- an operand, read later -/
theorem OpR.prep {R : RC} {Z : Addr → Prop} {H0 : Hp} {io : Option (Nat × Addr)} {σ : Sg} {H1 H2 : Hp} {env1 env2 : Loca} {v : V} {o : Op} (h : OpR R Z σ H1 env1 v o) (m : Mono σ H1 env1 σ H2 env2) (r : ER R Z H0 io σ H2 env2) :
    PRep R H2 (hid Z σ env2 H2) v (o.rd env2) := by
  cases o with
  | dat d => exact .rep (Rep.mono m.see h)
  | slot i =>
    have h : σ[i]? = some (some v) := h
    show PRep _ _ _ v (at_ env2 i).datum
    cases hc : at_ env2 i with
    | emp => exact .junk
    | val d =>
      obtain ⟨u, e1, q⟩ := r.cell i d (at_some hc (by intro z; cases z))
      rw [h] at e1; cases e1
      exact .rep q
    | own d =>
      obtain ⟨a, e1, q⟩ := r.own i d (at_some hc (by intro z; cases z))
      rw [h] at e1; cases e1
      exact .own q
theorem OpRs.preps {R : RC} {Z : Addr → Prop} {H0 : Hp} {io : Option (Nat × Addr)} {σ : Sg} {H2 : Hp} {env2 : Loca} (r : ER R Z H0 io σ H2 env2) : ∀ {vs : List V} {os : List Op}, OpRs R Z σ H2 env2 vs os → PReps R H2 (hid Z σ env2 H2) vs (os.map fun o => o.rd env2)
  | _, _, .nil => .nil
  | _, _, .cons h t => .cons (h.prep .refl r) (OpRs.preps r t)
theorem OpRs.mono {R : RC} {Z : Addr → Prop} {σ : Sg} {H1 H2 : Hp} {env1 env2 : Loca} (m : Mono σ H1 env1 σ H2 env2) : ∀ {vs : List V} {os : List Op}, OpRs R Z σ H1 env1 vs os → OpRs R Z σ H2 env2 vs os
  | _, _, .nil => .nil
  | _, _, .cons (o := .dat d) h t => .cons (Rep.mono m.see (show Rep _ _ _ _ from h)) (OpRs.mono m t)
  | _, _, .cons (o := .slot i) h t => .cons (show σ[i]? = some (some _) from h) (OpRs.mono m t)

section
variable {G : Gx} {gi : Str → Option Int} {X : Cx} {W : WX}

/-! ### names -/
theorem s_varP {i : Nat} {x : Str} {pos : Pos} (hN : X.N[i]? = some x) (hv : visC X.env.scope x = true) : PE X (.Name x pos) (tP G X W (.var i)) := by
  obtain ⟨h1, h2, h3⟩ := visC_ok hv
  refine L2.PE.imp (pe_var hN h1 h2 h3) ?_
  rintro σ H Q ⟨Z, H0, io, env, Qd, Xd, hio, er, lk, w, fin⟩
  unfold pk at w
  dsimp only at w
  cases hc : at_ env i with
  | emp => rw [hc] at w; exact w.elim
  | val d =>
    rw [hc] at w
    obtain ⟨u, e1, q⟩ := er.cell i d (at_some hc (by intro z; cases z))
    exact ⟨u, e1, fin (.dat d) env u H er .refl q w⟩
  | own d =>
    rw [hc] at w
    obtain ⟨a, e1, q⟩ := er.own i d (at_some hc (by intro z; cases z))
    exact ⟨.ref a, e1, fin (.slot i) env (.ref a) H er .refl e1 w⟩
theorem s_var {i : Nat} {x : Str} {pos : Pos} (hN : X.N[i]? = some x) (hv : visC X.env.scope x = true) : PE X (.Name x pos) (tE G X W (.var i)) := by
  obtain ⟨h1, h2, h3⟩ := visC_ok hv
  refine L2.PE.imp (pe_var hN h1 h2 h3) ?_
  rintro σ H Q ⟨Z, H0, io, env, Qd, Xd, hio, er, lk, w, fin⟩
  unfold wE at w
  cases hc : at_ env i with
  | emp => rw [hc] at w; exact w.elim
  | val d =>
    rw [hc] at w
    obtain ⟨u, e1, q⟩ := er.cell i d (at_some hc (by intro z; cases z))
    exact ⟨u, e1, fin _ env u H er .refl q (fun z => by cases z) w⟩
  | own d =>
    rw [hc] at w
    obtain ⟨hne, w⟩ := w
    have nio : ∀ a, io ≠ some (i, a) := fun a q => hne (by rw [hio, q]; rfl)
    obtain ⟨er', m, a, e1, q⟩ := er.release (at_some hc (by intro z; cases z)) nio
    exact ⟨.ref a, e1, fin _ _ (.ref a) H er' m q (fun z => by cases z) w⟩
/-- an operand: as a value, or a name -/
theorem s_pk {e : E} {py : Expr} (hp : PE X py (tE G X W e)) (hv : ∀ i, e = .var i → PE X py (tP G X W e)) : PE X py (tP G X W e) := by
  have gen : (∀ env Q Xd, pk e (wE G e) env Q Xd = wE G e env (fun d env' => Q (.dat d) env') Xd) → PE X py (tP G X W e) := fun hpk => by
    refine hp.imp ?_
    rintro σ H Q ⟨Z, H0, io, env, Qd, Xd, hio, er, lk, w, fin⟩
    rw [hpk] at w
    exact ⟨Z, H0, io, env, _, Xd, hio, er, lk, w, fun d env' v H' r m q _ k => fin (.dat d) env' v H' r m q k⟩
  cases e with
  | var i => exact hv i rfl
  | _ => exact gen fun _ _ _ => rfl

/-! ### constants -/
theorem s_const {e : E} {d : D} {x : V} {py : Expr} (hp : PE X py (tC x)) (hw : ∀ env Q Xd, wE G e env Q Xd = Q d env) (hr : ∀ H, Rep (rcOf G X) H x d) (hm : isMut d = false) : PE X py (tE G X W e) := by
  refine hp.imp ?_
  rintro σ H Q ⟨Z, H0, io, env, Qd, Xd, hio, er, lk, w, fin⟩
  rw [hw] at w
  exact fin _ env x H er .refl (hr _) (fun _ h => by rw [hm] at h; cases h) w

/-! ### operators -/
theorem s_bin {o : BO} {a b : E} {pa pb : Expr} {pos : Pos} (ha : PE X pa (tP G X W a)) (hb : PE X pb (tP G X W b)) : PE X (.BinOp pa (boOp o) pb pos) (tE G X W (.bin o a b)) := by
  refine (pe_op (op_binD o) ha hb).imp ?_
  rintro σ H Q ⟨Z, H0, io, env, Qd, Xd, hio, er, lk, w, fin⟩
  unfold wE at w
  refine ⟨Z, H0, io, env, _, Xd, hio, er, lk, w, fun x env1 v1 H1 er1 m1 r1 w1 => ?_⟩
  refine ⟨Z, H0, io, env1, _, Xd, hio, er1, lk.step m1, w1, fun y env2 v2 H2 er2 m2 r2 w2 => ?_⟩
  refine of_bin (Z := Z) er2 (r1.prep m2 er2) (r2.prep .refl er2) w2 fun g v H' k an => ?_
  obtain ⟨a1, a2, a3, a4⟩ := an
  have m := (m1.trans m2).trans a2
  refine fin g env2 v H' a1 m a3 (fun hf hm => ?_) k
  obtain ⟨p, rfl, f⟩ := a4 hf hm
  exact ⟨p, rfl, f.start ((m1.trans m2).free f.hs)⟩
end
end Pd

/-! Soundness of expressions: operators, displays, calls. -/
namespace Pd
open L2 PyProof.Rows PySem.Spec PySem
section
variable {G : Gx} {gi : Str → Option Int} {X : Cx} {W : WX}
theorem fin_ans {R : RC} {Z : Addr → Prop} {H0 : Hp} {io : Option (Nat × Addr)} {σ : Sg} {H H2 H' : Hp} {env env2 : Loca} {fr f : Bool} {Qd : D → Loca → Prop} {Q : VK} {g : D} {v : V} (m : Mono σ H env σ H2 env2)
    (fin : ∀ d env' v H', ER R Z H0 io σ H' env' → Mono σ H env σ H' env' → Rep R (hid Z σ env' H') v d → (fr = true → isMut d = true → ∃ p, v = .ref p ∧ Fri R Z H0 io H σ H' env' p d) → Qd d env' → Q v H')
    (an : Ans R Z H0 io σ H2 env2 f g v H') (hf : fr = true → f = true) (k : Qd g env2) : Q v H' := by
  obtain ⟨a1, a2, a3, a4⟩ := an
  refine fin g env2 v H' a1 (m.trans a2) a3 (fun h1 h2 => ?_) k
  obtain ⟨p, rfl, q⟩ := a4 (hf h1) h2
  exact ⟨p, rfl, q.start (m.free q.hs)⟩
theorem s_neg {a : E} {pa : Expr} {pos : Pos} (ha : PE X pa (tE G X W a)) : PE X (.UnaryOp .USub pa pos) (tE G X W (.neg a)) := by
  refine (pe_un un_neg ha).imp ?_
  rintro σ H Q ⟨Z, H0, io, env, Qd, Xd, hio, er, lk, w, fin⟩
  unfold wE at w
  refine ⟨Z, H0, io, env, _, Xd, hio, er, lk, w, fun x env1 v1 H1 er1 m1 r1 _ w1 => ?_⟩
  cases x with
  | int i =>
    cases r1
    exact ⟨i, rfl, fin_ans m1 fin (.flat er1 (.int _) fun _ => rfl) (fun h => h) w1⟩
  | _ => exact w1.elim
theorem s_not {a : E} {pa : Expr} {pos : Pos} (ha : PE X pa (tE G X W a)) : PE X (.UnaryOp .Not pa pos) (tE G X W (.not a)) := by
  refine (pe_not ha).imp ?_
  rintro σ H Q ⟨Z, H0, io, env, Qd, Xd, hio, er, lk, w, fin⟩
  unfold wE at w
  refine ⟨Z, H0, io, env, _, Xd, hio, er, lk, w, fun x env1 v1 H1 er1 m1 r1 _ w1 => ?_⟩
  cases x with
  | bl i =>
    cases r1
    exact ⟨i, rfl, fin_ans m1 fin (.flat er1 (.bl _) fun _ => rfl) (fun h => h) w1⟩
  | _ => exact w1.elim
theorem s_cmp {o : CO} {a b : E} {pa pb : Expr} {pos : Pos} (hu : X.A.units + 64 < cLine) (hb0 : notSet pb = true) (ha : PE X pa (tP G X W a)) (hb : PE X pb (tP G X W b)) : PE X (.Compare pa [coOp o] [pb] pos) (tE G X W (.cmp o a b)) := by
  refine (pe_cmpR (op_cmpD o hu) ha hb (notSet_mark hb0 _)).imp ?_
  rintro σ H Q ⟨Z, H0, io, env, Qd, Xd, hio, er, lk, w, fin⟩
  unfold wE at w
  refine ⟨Z, H0, io, env, _, Xd, hio, er, lk, w, fun x env1 v1 H1 er1 m1 r1 w1 => ?_⟩
  refine ⟨Z, H0, io, env1, _, Xd, hio, er1, lk.step m1, w1, fun y env2 v2 H2 er2 m2 r2 w2 => ?_⟩
  exact of_cmp hid_le (r1.prep m2 er2) (r2.prep .refl er2) w2 fun b k => fin_ans (m1.trans m2) fin (.flat er2 (.bl _) fun _ => rfl) (fun h => h) k
theorem s_cmpT {o : CO} {a b : E} {pa pb : Expr} {pos : Pos} (hu : X.A.units + 64 < cLine) (hb0 : notSet pb = true) (ha : PE X pa (tP G X W a)) (hb : PE X pb (tP G X W b)) : PT X (.Compare pa [coOp o] [pb] pos) (tT G X W (wT G (.tst (.cmp o a b)))) := by
  refine (pt_cmpR (op_cmpD o hu) ha hb (notSet_mark hb0 _)).imp ?_
  rintro σ H Q ⟨Z, H0, io, env, Qd, Xd, hio, er, lk, w, fin⟩
  unfold wT pk at w
  dsimp only at w
  unfold wE at w
  refine ⟨Z, H0, io, env, _, Xd, hio, er, lk, w, fun x env1 v1 H1 er1 m1 r1 w1 => ?_⟩
  refine ⟨Z, H0, io, env1, _, Xd, hio, er1, lk.step m1, w1, fun y env2 v2 H2 er2 m2 r2 w2 => ?_⟩
  exact of_cmp hid_le (r1.prep m2 er2) (r2.prep .refl er2) w2 fun b k => ⟨b, rfl, fin _ _ _ er2 (m1.trans m2) k⟩
theorem chn_red {o o' : CO} {a b c : E} (hu : X.A.units + 64 < cLine) {σ : Sg} {H : Hp} {P : V → Hp → Prop}
    (h : ∃ (Z : Addr → Prop) (H0 : Hp) (io : Option (Nat × Addr)) (env : Loca) (Qd : Bool → Loca → Prop) (Xd : Xq),
      G.iop = io.map (·.1) ∧ ER (rcOf G X) Z H0 io σ H env ∧ Lk (rcOf G X) Z H0 io W σ H env Xd ∧
      wE G a env (fun x env1 => wE G b env1 (fun y env2 => wCmp o x y fun r => if r = true then wE G c env2 (fun z env3 => wCmp o' y z fun r' => Qd r' env3) Xd else Qd false env2) Xd) Xd ∧
      ∀ d env' H', ER (rcOf G X) Z H0 io σ H' env' → Mono σ H env σ H' env' → Qd d env' → P (.bl d) H') :
    tChain (rCmpD X.K o) (rCmpD X.K o') (tE G X W a) (tE G X W b) (tE G X W c) σ H P := by
  obtain ⟨Z, H0, io, env, Qd, Xd, hio, er, lk, w, fin⟩ := h
  refine ⟨Z, H0, io, env, _, Xd, hio, er, lk, w, fun x env1 v1 H1 er1 m1 r1 _ w1 => ?_⟩
  refine ⟨Z, H0, io, env1, _, Xd, hio, er1, lk.step m1, w1, fun y env2 v2 H2 er2 m2 r2 _ w2 => ?_⟩
  refine of_cmp hid_le (.rep (r1.mono m2.see)) (.rep r2) w2 fun b k => ⟨b, rfl, ?_⟩
  cases b with
  | false =>
    rw [if_neg Bool.false_ne_true] at k ⊢
    exact fin _ _ _ er2 (m1.trans m2) k
  | true =>
    rw [if_pos rfl] at k ⊢
    refine ⟨Z, H0, io, env2, _, Xd, hio, er2, lk.step (m1.trans m2), k, fun z env3 v3 H3 er3 m3 r3 _ w3 => ?_⟩
    exact of_cmp hid_le (.rep (r2.mono m3.see)) (.rep r3) w3 fun b k => fin _ _ _ er3 ((m1.trans m2).trans m3) k
theorem s_chn {o o' : CO} {a b c : E} {pa pb pc : Expr} {pos : Pos} (hu : X.A.units + 64 < cLine) (ha : PE X pa (tE G X W a)) (hb : PE X pb (tE G X W b)) (hc : PE X pc (tE G X W c)) (h1 : notSet pb = true) (h2 : notSet pc = true)
    (mk : PE X (.Compare pa [coOp o, coOp o'] [pb, pc] pos) (tChain (rCmpD X.K o) (rCmpD X.K o') (tE G X W a) (tE G X W b) (tE G X W c))) : PE X (.Compare pa [coOp o, coOp o'] [pb, pc] pos) (tE G X W (.chn o o' a b c)) := by
  refine mk.imp ?_
  rintro σ H Q ⟨Z, H0, io, env, Qd, Xd, hio, er, lk, w, fin⟩
  unfold wE at w
  exact chn_red hu ⟨Z, H0, io, env, fun b env => Qd (.bl b) env, Xd, hio, er, lk, w, fun b env2 H2 er2 m k => fin_ans m fin (.flat er2 (.bl _) fun _ => rfl) (fun h => h) k⟩
theorem non_eq {R : RC} {H : Hp} {v : V} {d : D} (r : Rep R H v d) : decide (v = V.non) = isNonD d := by
  cases r <;> simp [isNonD]
theorem s_isn {a : E} {pa : Expr} {j : Nat} {pos p2 : Pos} (ha : PE X pa (tE G X W a)) : PE X (.Compare pa [.Is] [.Constant .none j p2] pos) (tE G X W (.isn a)) := by
  refine (pe_cmp (pc_isN ha) rfl).imp ?_
  rintro σ H Q ⟨Z, H0, io, env, Qd, Xd, hio, er, lk, w, fin⟩
  unfold wE at w
  refine ⟨Z, H0, io, env, _, Xd, hio, er, lk, w, fun x env1 v1 H1 er1 m1 r1 _ w1 => ?_⟩
  show Q (.bl (decide (v1 = V.non))) H1
  rw [non_eq r1]
  exact fin_ans m1 fin (.flat er1 (.bl _) fun _ => rfl) (fun h => h) w1
theorem s_ntn {a : E} {pa : Expr} {j : Nat} {pos p2 : Pos} (ha : PE X pa (tE G X W a)) : PE X (.Compare pa [.IsNot] [.Constant .none j p2] pos) (tE G X W (.ntn a)) := by
  refine (pe_cmp (pc_notN ha) rfl).imp ?_
  rintro σ H Q ⟨Z, H0, io, env, Qd, Xd, hio, er, lk, w, fin⟩
  unfold wE at w
  refine ⟨Z, H0, io, env, _, Xd, hio, er, lk, w, fun x env1 v1 H1 er1 m1 r1 _ w1 => ?_⟩
  show Q (.bl (!decide (v1 = V.non))) H1
  rw [non_eq r1]
  exact fin_ans m1 fin (.flat er1 (.bl _) fun _ => rfl) (fun h => h) w1
theorem s_isnT {a : E} {pa : Expr} {j : Nat} {pos p2 : Pos} (ha : PE X pa (tE G X W a)) : PT X (.Compare pa [.Is] [.Constant .none j p2] pos) (tT G X W (wT G (.tst (.isn a)))) := by
  refine (pt_cmp (pc_isN ha) rfl).imp ?_
  rintro σ H Q ⟨Z, H0, io, env, Qd, Xd, hio, er, lk, w, fin⟩
  unfold wT pk at w
  dsimp only at w
  unfold wE at w
  refine ⟨Z, H0, io, env, _, Xd, hio, er, lk, w, fun x env1 v1 H1 er1 m1 r1 _ w1 => ?_⟩
  refine ⟨_, rfl, ?_⟩
  rw [non_eq r1]
  exact fin _ _ _ er1 m1 w1
theorem s_ntnT {a : E} {pa : Expr} {j : Nat} {pos p2 : Pos} (ha : PE X pa (tE G X W a)) : PT X (.Compare pa [.IsNot] [.Constant .none j p2] pos) (tT G X W (wT G (.tst (.ntn a)))) := by
  refine (pt_cmp (pc_notN ha) rfl).imp ?_
  rintro σ H Q ⟨Z, H0, io, env, Qd, Xd, hio, er, lk, w, fin⟩
  unfold wT pk at w
  dsimp only at w
  unfold wE at w
  refine ⟨Z, H0, io, env, _, Xd, hio, er, lk, w, fun x env1 v1 H1 er1 m1 r1 _ w1 => ?_⟩
  refine ⟨_, rfl, ?_⟩
  rw [non_eq r1]
  exact fin _ _ _ er1 m1 w1

/-! ### lists of expressions -/
theorem star_ok {py : Expr} (h : ∀ e p, py ≠ .Starred e p) (es : List Expr) (env : Env) : starEach (py :: es) env = (false, eval py env) :: starEach es env := by
  cases py <;> first | rfl | exact absurd rfl (h _ _)
theorem s_nil : PA X [] (tA G X W .nil) := by
  refine pa_nil.imp ?_
  rintro σ H Q ⟨Z, H0, io, env, Qd, Xd, hio, er, lk, w, fin⟩
  exact fin [] env [] H er .refl .nil rfl w
theorem s_cons {e es : E} {p : Expr} {ps : List Expr} (h1 : PE X p (tE G X W e)) (h2 : PA X ps (tA G X W es)) (hs : ∀ e q, p ≠ .Starred e q) : PA X (p :: ps) (tA G X W (.cons e es)) := by
  refine (pa_cons h1 h2 (star_ok hs _ _)).imp ?_
  rintro σ H Q ⟨Z, H0, io, env, Qd, Xd, hio, er, lk, w, fin⟩
  unfold wA at w
  refine ⟨Z, H0, io, env, _, Xd, hio, er, lk, w, fun x env1 v1 H1 er1 m1 r1 _ w1 => ?_⟩
  exact ⟨Z, H0, io, env1, _, Xd, hio, er1, lk.step m1, w1, fun xs env2 vs H2 er2 m2 r2 l2 w2 => fin _ _ _ _ er2 (m1.trans m2) (.cons (r1.mono m2.see) r2) (congrArg (· + 1) l2) w2⟩
theorem s_nilP : PA X [] (tPs G X W .nil) := by
  refine pa_nil.imp ?_
  rintro σ H Q ⟨Z, H0, io, env, Qd, Xd, hio, er, lk, w, fin⟩
  exact fin [] env [] H er .refl .nil w
theorem OpR.mono {R : RC} {Z : Addr → Prop} {σ : Sg} {H1 H2 : Hp} {env1 env2 : Loca} {v : V} {o : Op} (m : Mono σ H1 env1 σ H2 env2) (h : OpR R Z σ H1 env1 v o) : OpR R Z σ H2 env2 v o := by
  cases o with
  | dat d => exact Rep.mono m.see h
  | slot i => exact h
theorem s_consP {e es : E} {p : Expr} {ps : List Expr} (h1 : PE X p (tP G X W e)) (h2 : PA X ps (tPs G X W es)) (hs : ∀ e q, p ≠ .Starred e q) : PA X (p :: ps) (tPs G X W (.cons e es)) := by
  refine (pa_cons h1 h2 (star_ok hs _ _)).imp ?_
  rintro σ H Q ⟨Z, H0, io, env, Qd, Xd, hio, er, lk, w, fin⟩
  unfold wP at w
  refine ⟨Z, H0, io, env, _, Xd, hio, er, lk, w, fun x env1 v1 H1 er1 m1 r1 w1 => ?_⟩
  exact ⟨Z, H0, io, env1, _, Xd, hio, er1, lk.step m1, w1, fun xs env2 vs H2 er2 m2 r2 w2 => fin _ _ _ _ er2 (m1.trans m2) (.cons (r1.mono m2) r2) w2⟩

/-! ### displays -/
theorem line1000 {n : Nat} (h : n ≤ 1000) : n ≤ sizeLine := Nat.le_of_lt (small1000 h)
theorem s_tup {es : E} {ps : List Expr} {k : Nat} {pos : Pos} (h : PA X ps (tA G X W es)) (hl : lnE es ≤ 1000) : PE X (.Tuple ps k pos) (tE G X W (.tup es)) := by
  refine (pe_tup h).imp ?_
  rintro σ H Q ⟨Z, H0, io, env, Qd, Xd, hio, er, lk, w, fin⟩
  unfold wE at w
  refine ⟨Z, H0, io, env, _, Xd, hio, er, lk, w, fun ds env1 vs H1 er1 m1 r1 l1 w1 => ⟨line1000 (by rw [r1.length, l1]; exact hl), fun p hp => ?_⟩⟩
  exact fin_ans m1 fin (.newTup (f := true) er1 hp r1) (fun _ => rfl) w1
theorem s_lst {es : E} {ps : List Expr} {pos : Pos} (h : PA X ps (tA G X W es)) (hl : lnE es ≤ 1000) : PE X (.List ps pos) (tE G X W (.lst es)) := by
  refine (pe_lst h).imp ?_
  rintro σ H Q ⟨Z, H0, io, env, Qd, Xd, hio, er, lk, w, fin⟩
  unfold wE at w
  refine ⟨Z, H0, io, env, _, Xd, hio, er, lk, w, fun ds env1 vs H1 er1 m1 r1 l1 w1 => ⟨line1000 (by rw [r1.length, l1]; exact hl), fun p hp => ?_⟩⟩
  exact fin_ans m1 fin (.newLst (f := true) er1 hp r1) (fun _ => rfl) w1

/-! ### built-ins, items, slices -/
theorem s_blt {f : BF} {es : E} {p0 : Expr} {ps : List Expr} {p pos : Pos} (hc : X.calm = true) (hg : Gl X (bfName f)) (hm : X.mg (bfName f) = none) (h : PA X (p0 :: ps) (tPs G X W es)) (hs : ∀ e q, p0 ≠ .Starred e q)
    (hp : (backTo pos (starEach ps X.env)).any (·.1) = false) (mk : ∀ {r : List V → Hp → VK → Prop} {t : TA}, CallR X (bfVal f) r → PA X (p0 :: ps) t → PE X (.Call (.Name (bfName f) p) (p0 :: ps) [] pos) (tCB r t)) :
    PE X (.Call (.Name (bfName f) p) (p0 :: ps) [] pos) (tE G X W (.blt f es)) := by
  refine (mk (call_D hc f) h).imp ?_
  rintro σ H Q ⟨Z, H0, io, env, Qd, Xd, hio, er, lk, w, fin⟩
  unfold wE at w
  refine ⟨Z, H0, io, env, _, Xd, hio, er, lk, w, fun ds env1 vs H1 er1 m1 r1 w1 => ?_⟩
  exact of_blt (R := rcOf G X) er1 (r1.preps er1) w1 fun g v H' k an => fin_ans m1 fin an (fun h => h) k
theorem s_isi {a : E} {T : TyN} {pa : Expr} {p p2 pos : Pos} (hg : Gl X "isinstance") (hm : X.mg "isinstance" = none) (hg2 : Gl X (tyName T)) (hm2 : X.mg (tyName T) = none) (ha : PE X pa (tP G X W a)) (hs : ∀ e q, pa ≠ .Starred e q) :
    PE X (.Call (.Name "isinstance" p) [pa, .Name (tyName T) p2] [] pos) (tE G X W (.isi a T)) := by
  have hty : PE X (.Name (tyName T) p2) (tC (.ty (tyStr T))) := pe_bltn hg2 hm2 (ty_boot T) rfl (ty_ne T).1 (ty_ne T).2
  refine (pe_callB call_isi hg hm (by decide +kernel) (pa_cons ha (pa_cons hty pa_nil) (star_ok hs _ _)) (by decide) (by decide) (star_ok hs _ _)).imp ?_
  rintro σ H Q ⟨Z, H0, io, env, Qd, Xd, hio, er, lk, w, fin⟩
  unfold wE at w
  refine ⟨Z, H0, io, env, _, Xd, hio, er, lk, w, fun o env1 v1 H1 er1 m1 r1 w1 => ?_⟩
  obtain ⟨h1, w1⟩ := w1
  exact ⟨v1, .ty (tyStr T), _, _, _, rfl, .ty _, of_ty (R := rcOf G X) hid_le (r1.prep .refl er1) h1, kit_D _ h1 T, fin_ans m1 fin (.flat er1 (.bl _) fun _ => rfl) (fun h => h) w1⟩
theorem s_ix {a b : E} {pa pb : Expr} {pos : Pos} (ha : PE X pa (tP G X W a)) (hb : PE X pb (tE G X W b)) (hp : PlainIx pb) : PE X (.Subscript pa pb pos) (tE G X W (.ix a b)) := by
  refine (pe_ix ix_seq ha hb hp).imp ?_
  rintro σ H Q ⟨Z, H0, io, env, Qd, Xd, hio, er, lk, w, fin⟩
  unfold wE at w
  refine ⟨Z, H0, io, env, _, Xd, hio, er, lk, w, fun x env1 v1 H1 er1 m1 r1 w1 => ?_⟩
  refine ⟨Z, H0, io, env1, _, Xd, hio, er1, lk.step m1, w1, fun y env2 v2 H2 er2 m2 r2 _ w2 => ?_⟩
  exact of_ix (R := rcOf G X) er2 (r1.prep m2 er2) (.rep r2) w2 fun g v k r => fin g env2 v H2 er2 (m1.trans m2) r (fun h => by cases h) k
end
end Pd

/-! Soundness of expressions: slices, conditions, calls. -/
namespace Pd
open L2 PyProof.Rows PySem.Spec PySem
section
variable {G : Gx} {gi : Str → Option Int} {X : Cx} {W : WX}
def tO (G : Gx) (X : Cx) (W : WX) (e : E) : TO := fun σ H Q => ∃ (Z : Addr → Prop) (H0 : Hp) (io : Option (Nat × Addr)) (env : Loca) (Qd : Option Int → Loca → Prop) (Xd : Xq),
  G.iop = io.map (·.1) ∧ ER (rcOf G X) Z H0 io σ H env ∧ Lk (rcOf G X) Z H0 io W σ H env Xd ∧ wA G e env (fun l env' => wOpt l fun i => Qd i env') Xd ∧
  ∀ i env' H', ER (rcOf G X) Z H0 io σ H' env' → Mono σ H env σ H' env' → Qd i env' → Q i H'
theorem _root_.L2.PO.imp {X : Cx} {e : Option Expr} {t t' : TO} (h : PO X e t) (i : ∀ σ H Q, t' σ H Q → t σ H Q) : PO X e t' := ⟨fun pins s σ H Q I w => h.run pins s σ H Q I (i σ H Q w)⟩
theorem s_onone : PO X none (tO G X W .nil) := by
  refine po_none.imp ?_
  rintro σ H Q ⟨Z, H0, io, env, Qd, Xd, hio, er, lk, w, fin⟩
  exact fin none env H er .refl w
theorem s_osome {e : E} {p : Expr} (h : PE X p (tE G X W e)) : PO X (some p) (tO G X W (.cons e .nil)) := by
  refine (po_some h).imp ?_
  rintro σ H Q ⟨Z, H0, io, env, Qd, Xd, hio, er, lk, w, fin⟩
  unfold wA at w
  refine ⟨Z, H0, io, env, _, Xd, hio, er, lk, w, fun x env1 v1 H1 er1 m1 r1 _ w1 => ?_⟩
  unfold wA at w1
  cases x with
  | int i =>
    cases r1
    exact ⟨i, rfl, fin (some i) env1 H1 er1 m1 w1⟩
  | _ => exact w1.elim
theorem s_slc {a lo hi : E} {pa : Expr} {plo phi : Option Expr} {p2 pos : Pos} (ha : PE X pa (tP G X W a)) (hl : PO X plo (tO G X W lo)) (hh : PO X phi (tO G X W hi)) : PE X (.Subscript pa (.Slice plo phi none p2) pos) (tE G X W (.slc a lo hi)) := by
  refine (pe_slice sl_D ha hl hh).imp ?_
  rintro σ H Q ⟨Z, H0, io, env, Qd, Xd, hio, er, lk, w, fin⟩
  unfold wE at w
  refine ⟨Z, H0, io, env, _, Xd, hio, er, lk, w, fun x env1 v1 H1 er1 m1 r1 w1 => ?_⟩
  refine ⟨Z, H0, io, env1, _, Xd, hio, er1, lk.step m1, w1, fun i env2 H2 er2 m2 w2 => ?_⟩
  refine ⟨Z, H0, io, env2, _, Xd, hio, er2, lk.step (m1.trans m2), w2, fun j env3 H3 er3 m3 w3 => ?_⟩
  exact of_slc (R := rcOf G X) er3 (r1.prep (m2.trans m3) er3) w3 fun g v H' k an => fin_ans ((m1.trans m2).trans m3) fin an (fun _ => rfl) k
theorem s_rev {a : E} {pa : Expr} {k : Nat} {p1 p2 p3 pos : Pos} (ha : PE X pa (tP G X W a)) : PE X (.Subscript pa (.Slice none none (some (.UnaryOp .USub (.Constant (.int 1) k p1) p2)) p3) pos) (tE G X W (.rev a)) := by
  refine (pe_revL ha).imp ?_
  rintro σ H Q ⟨Z, H0, io, env, Qd, Xd, hio, er, lk, w, fin⟩
  unfold wE at w
  refine ⟨Z, H0, io, env, _, Xd, hio, er, lk, w, fun x env1 v1 H1 er1 m1 r1 w1 => ?_⟩
  have pr := r1.prep .refl er1
  generalize x.rd env1 = d at pr w1
  cases d with
  | lst xs =>
    obtain ⟨p, vs, rfl, hp, hv⟩ := pr.lst hid_le
    exact ⟨p, vs, rfl, .of hp, fun q hq => fin_ans m1 fin (.newLst (f := true) er1 hq hv.reverse) (fun _ => rfl) w1⟩
  | frz xs =>
    obtain ⟨p, vs, rfl, hp, hv⟩ := pr.frz hid_le
    exact ⟨p, vs, rfl, hp, fun q hq => fin_ans m1 fin (.newLst (f := true) er1 hq hv.reverse) (fun _ => rfl) w1⟩
  | _ => exact w1.elim

/-! ### ranges -/
theorem reps_rg {R : RC} {H : Hp} (a b : Int) : Reps R H (rgV a b) (rngD a b) := by
  unfold rgV rngD
  induction (List.range (b - a).toNat) with
  | nil => exact .nil
  | cons x xs ih => exact .cons (.int _) ih
theorem rng_vals {R : RC} {H : Hp} {vs : List V} {ds : List D} {p : Int × Int} (r : Reps R H vs ds) (h : rngE ds = some p) : (∃ n, vs = [.int n] ∧ p = (0, n)) ∨ ∃ i j, vs = [.int i, .int j] ∧ p = (i, j) := by
  match ds, r, h with
  | [.int n], .cons (.int _) .nil, h => cases h; exact .inl ⟨n, rfl, rfl⟩
  | [.int i, .int j], .cons (.int _) (.cons (.int _) .nil), h => cases h; exact .inr ⟨i, j, rfl, rfl⟩

/-! ### conditions -/
theorem s_ite {c a b : E} {pc pa pb : Expr} {pos : Pos} (hc : PT X pc (tT G X W (wT G c))) (ha : PE X pa (tE G X W a)) (hb : PE X pb (tE G X W b)) : PE X (.IfExp pc pa pb pos) (tE G X W (.ite c a b)) := by
  refine (pe_ifExp hc ha hb).imp ?_
  rintro σ H Q ⟨Z, H0, io, env, Qd, Xd, hio, er, lk, w, fin⟩
  unfold wE at w
  refine ⟨Z, H0, io, env, _, Xd, hio, er, lk, w, fun t env1 H1 er1 m1 w1 => ?_⟩
  cases t with
  | true =>
    rw [if_pos rfl] at w1 ⊢
    exact ⟨Z, H0, io, env1, _, Xd, hio, er1, lk.step m1, w1, fun d env2 v H2 er2 m2 r _ k => fin d env2 v H2 er2 (m1.trans m2) r (fun h => by cases h) k⟩
  | false =>
    rw [if_neg Bool.false_ne_true] at w1 ⊢
    exact ⟨Z, H0, io, env1, _, Xd, hio, er1, lk.step m1, w1, fun d env2 v H2 er2 m2 r _ k => fin d env2 v H2 er2 (m1.trans m2) r (fun h => by cases h) k⟩
/-- values joined by and, or -/
def tW (G : Gx) (X : Cx) (W : WX) (f : Wf) : TE := fun σ H Q => ∃ (Z : Addr → Prop) (H0 : Hp) (io : Option (Nat × Addr)) (env : Loca) (Qd : D → Loca → Prop) (Xd : Xq),
  G.iop = io.map (·.1) ∧ ER (rcOf G X) Z H0 io σ H env ∧ Lk (rcOf G X) Z H0 io W σ H env Xd ∧ f env Qd Xd ∧
  ∀ d env' v H', ER (rcOf G X) Z H0 io σ H' env' → Mono σ H env σ H' env' → Rep (rcOf G X) (hid Z σ env' H') v d → Qd d env' → Q v H'
theorem s_and1 {e : E} {p : Expr} {pos : Pos} (h : PE X p (tE G X W e)) : PE X (.BoolOp .And [p] pos) (tW G X W (wAnd G (.cons e .nil))) := by
  refine (pe_one h).imp ?_
  rintro σ H Q ⟨Z, H0, io, env, Qd, Xd, hio, er, lk, w, fin⟩
  exact ⟨Z, H0, io, env, Qd, Xd, hio, er, lk, w, fun d env' v H' a b c _ k => fin d env' v H' a b c k⟩
theorem s_or1 {e : E} {p : Expr} {pos : Pos} (h : PE X p (tE G X W e)) : PE X (.BoolOp .Or [p] pos) (tW G X W (wOr G (.cons e .nil))) := by
  refine (pe_one h).imp ?_
  rintro σ H Q ⟨Z, H0, io, env, Qd, Xd, hio, er, lk, w, fin⟩
  exact ⟨Z, H0, io, env, Qd, Xd, hio, er, lk, w, fun d env' v H' a b c _ k => fin d env' v H' a b c k⟩
theorem s_and2 {e e2 es : E} {p q : Expr} {ps : List Expr} {pos : Pos} (h : PE X p (tE G X W e)) (h2 : PE X (.BoolOp .And (q :: ps) pos) (tW G X W (wAnd G (.cons e2 es)))) :
    PE X (.BoolOp .And (p :: q :: ps) pos) (tW G X W (wAnd G (.cons e (.cons e2 es)))) := by
  refine (pe_and h h2).imp ?_
  rintro σ H Q ⟨Z, H0, io, env, Qd, Xd, hio, er, lk, w, fin⟩
  rw [wAnd] at w
  rotate_left
  · intro z; cases z
  refine ⟨Z, H0, io, env, _, Xd, hio, er, lk, w, fun x env1 v1 H1 er1 m1 r1 _ w1 => ?_⟩
  cases x with
  | bl b =>
    cases r1
    refine ⟨b, rfl, ?_⟩
    cases b with
    | true =>
      dsimp only at w1
      rw [if_pos rfl] at w1 ⊢
      exact ⟨Z, H0, io, env1, _, Xd, hio, er1, lk.step m1, w1, fun d env2 v H2 er2 m2 r k => fin d env2 v H2 er2 (m1.trans m2) r k⟩
    | false =>
      dsimp only at w1
      rw [if_neg Bool.false_ne_true] at w1 ⊢
      exact fin _ env1 _ H1 er1 m1 (.bl _) w1
  | _ => exact w1.elim
theorem s_or2 {e e2 es : E} {p q : Expr} {ps : List Expr} {pos : Pos} (h : PE X p (tE G X W e)) (h2 : PE X (.BoolOp .Or (q :: ps) pos) (tW G X W (wOr G (.cons e2 es)))) :
    PE X (.BoolOp .Or (p :: q :: ps) pos) (tW G X W (wOr G (.cons e (.cons e2 es)))) := by
  refine (pe_or h h2).imp ?_
  rintro σ H Q ⟨Z, H0, io, env, Qd, Xd, hio, er, lk, w, fin⟩
  rw [wOr] at w
  rotate_left
  · intro z; cases z
  refine ⟨Z, H0, io, env, _, Xd, hio, er, lk, w, fun x env1 v1 H1 er1 m1 r1 _ w1 => ?_⟩
  cases x with
  | bl b =>
    cases r1
    refine ⟨b, rfl, ?_⟩
    cases b with
    | false =>
      dsimp only at w1
      rw [if_neg Bool.false_ne_true] at w1 ⊢
      exact ⟨Z, H0, io, env1, _, Xd, hio, er1, lk.step m1, w1, fun d env2 v H2 er2 m2 r k => fin d env2 v H2 er2 (m1.trans m2) r k⟩
    | true =>
      dsimp only at w1
      rw [if_pos rfl] at w1 ⊢
      exact fin _ env1 _ H1 er1 m1 (.bl _) w1
  | _ => exact w1.elim
theorem s_ofW {e : E} {py : Expr} {f : Wf} (h : PE X py (tW G X W f)) (hw : ∀ env Q Xd, wE G e env Q Xd = f env Q Xd) (hf : frE G.tb e = false) : PE X py (tE G X W e) := by
  refine h.imp ?_
  rintro σ H Q ⟨Z, H0, io, env, Qd, Xd, hio, er, lk, w, fin⟩
  rw [hw] at w
  exact ⟨Z, H0, io, env, Qd, Xd, hio, er, lk, w, fun d env' v H' a b c k => fin d env' v H' a b c (fun h => by rw [hf] at h; cases h) k⟩

/-! ### tests -/
theorem s_tst {e : E} {py : Expr} (h : PE X py (tP G X W e)) (ht : tstOk py = true) (hc : ∀ a ops es pos, py ≠ .Compare a ops es pos) : PT X py (tT G X W (wT G (.tst e))) := by
  have ht' : ∀ whole, isTrue py X.env whole = (do let v ← whole; standAt py.pos; holding [v] (truthy v)) := by
    intro whole
    cases py <;> first | rfl | (simp [tstOk] at ht; done) | exact absurd rfl (hc _ _ _ _) | skip
    rename_i op x pos
    cases op <;> first | rfl | (simp [tstOk] at ht; done)
  refine (pt_truth h ht').imp ?_
  rintro σ H Q ⟨Z, H0, io, env, Qd, Xd, hio, er, lk, w, fin⟩
  unfold wT at w
  refine ⟨Z, H0, io, env, _, Xd, hio, er, lk, w, fun x env1 v1 H1 er1 m1 r1 w1 => ?_⟩
  obtain ⟨b, tb, k⟩ := of_tru (R := rcOf G X) hid_le (r1.prep .refl er1) w1
  exact ⟨b, tb, fin b env1 H1 er1 m1 k⟩
theorem s_tnot {a : E} {pa : Expr} {pos : Pos} (h : PT X pa (tT G X W (wT G a))) : PT X (.UnaryOp .Not pa pos) (tT G X W (wT G (.not a))) := by
  refine (pt_not h).imp ?_
  rintro σ H Q ⟨Z, H0, io, env, Qd, Xd, hio, er, lk, w, fin⟩
  unfold wT at w
  exact ⟨Z, H0, io, env, _, Xd, hio, er, lk, w, fun b env1 H1 er1 m1 w1 => fin (!b) env1 H1 er1 m1 w1⟩
theorem _root_.L2.PW.imp {X : Cx} {e : Expr} {t t' : TT} (h : PW X e t) (i : ∀ σ H Q, t' σ H Q → t σ H Q) : PW X e t' := ⟨fun wh pins s σ H Q I w => h.run wh pins s σ H Q I (i σ H Q w)⟩
theorem s_ta1 {a : E} {pa : Expr} {pos : Pos} (h : PT X pa (tT G X W (wT G a))) : PW X (.BoolOp .And [pa] pos) (tT G X W (wTA G (.cons a .nil))) := by
  refine (pw_and1 h).imp ?_
  rintro σ H Q ⟨Z, H0, io, env, Qd, Xd, hio, er, lk, w, fin⟩
  unfold wTA at w
  refine ⟨Z, H0, io, env, _, Xd, hio, er, lk, w, fun b env1 H1 er1 m1 w1 => fin b env1 H1 er1 m1 ?_⟩
  cases b with
  | true => rw [if_pos rfl] at w1; exact w1
  | false => rw [if_neg Bool.false_ne_true] at w1; exact w1
theorem s_ta2 {a b es : E} {pa pb : Expr} {ps : List Expr} {pos : Pos} (h : PT X pa (tT G X W (wT G a))) (h2 : PW X (.BoolOp .And (pb :: ps) pos) (tT G X W (wTA G (.cons b es)))) :
    PW X (.BoolOp .And (pa :: pb :: ps) pos) (tT G X W (wTA G (.cons a (.cons b es)))) := by
  refine (pw_and h h2).imp ?_
  rintro σ H Q ⟨Z, H0, io, env, Qd, Xd, hio, er, lk, w, fin⟩
  rw [wTA] at w
  refine ⟨Z, H0, io, env, _, Xd, hio, er, lk, w, fun b env1 H1 er1 m1 w1 => ?_⟩
  cases b with
  | true =>
    rw [if_pos rfl] at w1 ⊢
    exact ⟨Z, H0, io, env1, _, Xd, hio, er1, lk.step m1, w1, fun d env2 H2 er2 m2 k => fin d env2 H2 er2 (m1.trans m2) k⟩
  | false =>
    rw [if_neg Bool.false_ne_true] at w1 ⊢
    exact fin _ env1 H1 er1 m1 w1
theorem s_to1 {a : E} {pa : Expr} {pos : Pos} (h : PT X pa (tT G X W (wT G a))) : PW X (.BoolOp .Or [pa] pos) (tT G X W (wTO G (.cons a .nil))) := by
  refine (pw_or1 h).imp ?_
  rintro σ H Q ⟨Z, H0, io, env, Qd, Xd, hio, er, lk, w, fin⟩
  unfold wTO at w
  refine ⟨Z, H0, io, env, _, Xd, hio, er, lk, w, fun b env1 H1 er1 m1 w1 => fin b env1 H1 er1 m1 ?_⟩
  cases b with
  | true => rw [if_pos rfl] at w1; exact w1
  | false => rw [if_neg Bool.false_ne_true] at w1; exact w1
theorem s_to2 {a b es : E} {pa pb : Expr} {ps : List Expr} {pos : Pos} (h : PT X pa (tT G X W (wT G a))) (h2 : PW X (.BoolOp .Or (pb :: ps) pos) (tT G X W (wTO G (.cons b es)))) :
    PW X (.BoolOp .Or (pa :: pb :: ps) pos) (tT G X W (wTO G (.cons a (.cons b es)))) := by
  refine (pw_or h h2).imp ?_
  rintro σ H Q ⟨Z, H0, io, env, Qd, Xd, hio, er, lk, w, fin⟩
  rw [wTO] at w
  refine ⟨Z, H0, io, env, _, Xd, hio, er, lk, w, fun b env1 H1 er1 m1 w1 => ?_⟩
  cases b with
  | true =>
    rw [if_pos rfl] at w1 ⊢
    exact fin _ env1 H1 er1 m1 w1
  | false =>
    rw [if_neg Bool.false_ne_true] at w1 ⊢
    exact ⟨Z, H0, io, env1, _, Xd, hio, er1, lk.step m1, w1, fun d env2 H2 er2 m2 k => fin d env2 H2 er2 (m1.trans m2) k⟩
end
end Pd

/-! Soundness of expressions: calls, what is walked, comprehensions. -/
namespace Pd
open L2 PyProof.Rows PySem.Spec PySem
section
variable {G : Gx} {gi : Str → Option Int} {X : Cx} {W : WX}
section
variable {R : RC} {Z : Addr → Prop} {H0 : Hp} {io : Option (Nat × Addr)} {σ : Sg} {H H' : Hp} {env : Loca}
theorem ER.zoks (r : ER R Z H0 io σ H env) : ∀ b, (Z b ∨ Own σ env b) → ∃ o, H b = some o := fun b h => by
  rcases h with h | ⟨i, d, e1, e2⟩
  · exact r.zok b h
  · obtain ⟨a, e, q⟩ := r.own i d e1
    rw [e2] at e; cases e
    exact q.some
/-- a call's answer -/
theorem ans_call (r : ER R Z H0 io σ H env) {d : D} {v : V} {fr : Bool} (e : Same H H') (hr : Rep R (hz (fun b => Z b ∨ Own σ env b) H') v d)
    (hf : fr = true → isMut d = true → ∃ p, v = .ref p ∧ H p = none ∧ (∃ o, H' p = some o) ∧ RepO R H' (hz (zx (fun b => Z b ∨ Own σ env b) p) H') p d) : Ans R Z H0 io σ H env fr d v H' := by
  refine ⟨r.grow e, mono_grow e, hr, fun h1 h2 => ?_⟩
  obtain ⟨p, rfl, hp, ⟨o, ho⟩, q⟩ := hf h1 h2
  refine ⟨p, rfl, hp, (r.hide hp e ho).1, (r.fresh hp).1, r.freshOld hp, fun k z => ?_, q.mono rfl fun b u hb => ?_⟩
  · obtain ⟨u, hu⟩ := r.iosH z
    rw [hp] at hu; cases hu
  · obtain ⟨n1, n2⟩ := hz_some hb
    exact hid_of (fun z => n1 (z.elim (fun z => .inl (.inl z)) .inr)) (fun z => n1 (.inl (.inr z))) n2
end
/-- f(..) of a def -/
theorem s_call {n k : Nat} {es : E} {f : Addr} {fd : FuncData} {ps : List Str} {x : Str} {p pos : Pos} {p0 : Expr} {pes : List Expr} (F : FnOk X.prog X.w X.K X.mg X.base (L2.CX X.prog X.w) k f fd ps (toSp (rcOf G X) (G.tb.io n) (G.tb.fr n) (G.sp n)))
    (hio : G.tb.io n = false) (hr : Room k X.A) (hg : Gl X x) (hm : X.mg x = some (.ref f)) (hk : PySem.W.keepIn X.K (.ref f) = true) (hb : L2.Binds X.K fd ps []) (tk : Takes X W) (ha : PA X (p0 :: pes) (tA G X W es))
    (hdb : (x == ("__debug__" : Str)) = false) (hs : ∀ e q, p0 ≠ .Starred e q) (hpl : (backTo pos (starEach pes X.env)).any (·.1) = false) :
    PE X (.Call (.Name x p) (p0 :: pes) [] pos) (tE G X W (.call n es)) := by
  refine (pe_callS F hr hg hm hk hb (fun σ => passAt tk σ) ha hdb (star_ok hs _ _) hpl).imp ?_
  rintro σ H Q ⟨Z, H0, io, env, Qd, Xd, hi, er, lk, w, fin⟩
  unfold wE at w
  refine ⟨Z, H0, io, env, _, Xd, hi, er, lk, w, fun ds env1 vs H1 er1 m1 r1 _ w1 => ?_⟩
  rw [hio]
  refine ⟨fun b => Z b ∨ Own σ env1 b, ds, _, _, er1.zoks, w1, fun _ => ⟨r1, fun d e v H' hP hs hr hf => ?_, fun x c dd H' hx hs hr => ?_⟩, fun h => by cases h⟩
  · exact fin_ans m1 fin (ans_call er1 hs hr hf) (fun h => h) hP
  · exact lk x env1 c dd H' (er1.grow hs) (m1.trans (mono_grow hs)) hr hx
theorem s_call0 {n k : Nat} {f : Addr} {fd : FuncData} {ps : List Str} {x : Str} {p pos : Pos} (F : FnOk X.prog X.w X.K X.mg X.base (L2.CX X.prog X.w) k f fd ps (toSp (rcOf G X) (G.tb.io n) (G.tb.fr n) (G.sp n)))
    (hio : G.tb.io n = false) (hr : Room k X.A) (hg : Gl X x) (hm : X.mg x = some (.ref f)) (hk : PySem.W.keepIn X.K (.ref f) = true) (hb : L2.Binds X.K fd ps []) (tk : Takes X W)
    (hdb : (x == ("__debug__" : Str)) = false) : PE X (.Call (.Name x p) [] [] pos) (tE G X W (.call n .nil)) := by
  refine ⟨fun pins s σ H Q I h => ?_⟩
  obtain ⟨Z, H0, io, env, Qd, Xd, hi, er, lk, w, fin⟩ := h
  unfold wE wA at w
  refine wpAny_Call_Name_kw (ld_glob I hg hm ?_ hdb)
  refine PySem.W.callWith_K0 I.kIn hk (run_fnS (us := []) (vs := []) (E := fun σ => WE W σ) F hr hb (passAt tk σ) I .nil ?_)
  rw [hio]
  refine ⟨fun b => Z b ∨ Own σ env b, [], _, _, er.zoks, w, fun _ => ⟨.nil, fun d e v H' hP hs hr hf => ?_, fun x c dd H' hx hs hr => ?_⟩, fun h => by cases h⟩
  · exact fin_ans .refl fin (ans_call er hs hr hf) (fun h => h) hP
  · exact lk x env c dd H' (er.grow hs) (mono_grow hs) hr hx
/-- f(own list, ..) of a def that changes it -/
theorem s_cio {n i k : Nat} {es : E} {f : Addr} {fd : FuncData} {ps : List Str} {x y : Str} {p p2 pos : Pos} {pes : List Expr} (F : FnOk X.prog X.w X.K X.mg X.base (L2.CX X.prog X.w) k f fd ps (toSp (rcOf G X) (G.tb.io n) (G.tb.fr n) (G.sp n)))
    (hio : G.tb.io n = true) (hr : Room k X.A) (hg : Gl X x) (hm : X.mg x = some (.ref f)) (hk : PySem.W.keepIn X.K (.ref f) = true) (hb : L2.Binds X.K fd ps []) (tk : Takes X W) (hN : X.N[i]? = some y) (hv : visC X.env.scope y = true)
    (ha : PA X pes (tA G X W es)) (hdb : (x == ("__debug__" : Str)) = false) (hpl : (backTo pos (starEach pes X.env)).any (·.1) = false) (hfr : G.tb.fr n = false) :
    PE X (.Call (.Name x p) (.Name y p2 :: pes) [] pos) (tE G X W (.cio n i es)) := by
  obtain ⟨v1, v2, v3⟩ := visC_ok hv
  refine (pe_callS F hr hg hm hk hb (fun σ => passAt tk σ) (pa_cons (pe_var hN v1 v2 v3) ha rfl) hdb rfl hpl).imp ?_
  rintro σ H Q ⟨Z, H0, io, env, Qd, Xd, hi, er, lk, w, fin⟩
  unfold wE at w
  obtain ⟨hown, w⟩ := w
  cases hc0 : at_ env i with
  | emp => rw [hc0] at hown; cases hown
  | val d => rw [hc0] at hown; cases hown
  | own dd =>
    obtain ⟨a, hs, _⟩ := er.own i dd (at_some hc0 (by intro z; cases z))
    refine ⟨.ref a, hs, Z, H0, io, env, _, Xd, hi, er, lk, w, fun ds env1 vs H1 er1 m1 r1 _ w1 => ?_⟩
    cases hc : at_ env1 i with
    | emp => rw [hc] at w1; exact w1.elim
    | val d => rw [hc] at w1; exact w1.elim
    | own d0 =>
      rw [hc] at w1
      have hcell := at_some hc (by intro z; cases z)
      obtain ⟨b, e1, ro⟩ := er1.own i d0 hcell
      rw [hs] at e1; cases e1
      rw [hio]
      refine ⟨fun b => Z b ∨ Own σ env1 b, d0 :: ds, _, _, er1.zoks, w1, (fun h => by cases h), fun _ => ⟨a, vs, d0, ds, rfl, rfl, .inr ⟨i, d0, hcell, hs⟩, ro, r1, fun d d1 v H' hP hf hr hro => ?_, fun x h => h⟩⟩
      obtain ⟨er2, m2⟩ := er1.change hcell hs hf hro
      have own' : Same (hid Z σ env1 H') (hid Z σ (put env1 i (.own d1)) H') := fun b u hb => by
        obtain ⟨a1, a2, a3⟩ := hid_some hb
        refine hid_of a1 (fun ⟨j, f, q1, q2⟩ => a2 ?_) a3
        rw [put_eq] at q1
        rcases set_at q1 with ⟨rfl, _, _⟩ | ⟨_, q1⟩
        · exact ⟨i, d0, hcell, q2⟩
        · exact ⟨j, f, q1, q2⟩
      exact fin d _ v H' er2 (m1.trans m2) (Rep.mono own' hr) (fun h => by cases h) hP
/-- f(..) of a local name that holds a def -/
theorem s_clv {i : Nat} {es : E} {x : Str} {p pos : Pos} {p0 : Expr} {pes : List Expr} (C : Cok G gi X W) (hN : X.N[i]? = some x) (hv : visC X.env.scope x = true)
    (ha : PA X (p0 :: pes) (tA G X W es)) (hs : ∀ e q, p0 ≠ .Starred e q) (hpl : (backTo pos (starEach pes X.env)).any (·.1) = false) :
    PE X (.Call (.Name x p) (p0 :: pes) [] pos) (tE G X W (.clv i es)) := by
  obtain ⟨v1, v2, v3⟩ := visC_ok hv
  refine ⟨fun pins s σ H Q I h => ?_⟩
  obtain ⟨Z, H0, io, env, Qd, Xd, hi, er, lk, w, fin⟩ := h
  unfold wE at w
  obtain ⟨n, hc0, hlv, hio, w⟩ := w
  have hcell := at_some hc0 (by intro z; cases z)
  obtain ⟨u, e1, r1⟩ := er.cell i _ hcell
  cases r1 with
  | fn _ hmg =>
    rename_i f
    refine wpAny_Call_Name_kw (thn ((pe_var (pos := p) hN v1 v2 v3).run pins s σ H (fun v H1 => v = .ref f ∧ H1 = H) I ⟨.ref f, e1, rfl, rfl⟩) fun u s1 ⟨v, H1, I1, q1, q2⟩ => ?_)
    obtain ⟨rfl, rfl⟩ := q2
    cases q1
    obtain ⟨f', fd, ps, g1, g2, F, hb⟩ := C.fns n hlv
    have hmg' : X.mg (G.tb.fnm n) = some (.ref f) := hmg
    rw [hmg'] at g1
    cases g1
    refine PySem.W.callWith_K (h₀ := X.base) I.ok.mod.kin g2 (thn (ha.run pos pins s1 σ _ (fun vs H2 => toSp (rcOf G X) (G.tb.io n) (G.tb.fr n) (G.sp n) vs H2 Q (WE W σ)) I1 ⟨Z, H0, io, env, _, Xd, hi, er, lk, w, fun ds env1 vs H1 er1 m1 r1 _ w1 => ?_⟩) fun us s2 ⟨vs, H2, I2, r, q⟩ => ⟨I2.kIn, ?_⟩) (star_ok hs _ _) hpl
    · rw [hio]
      refine ⟨fun b => Z b ∨ Own σ env1 b, ds, _, _, er1.zoks, w1, (fun _ => ⟨r1, fun d e v H' hP hs hr hf => ?_, fun x c dd H' hx hs hr => ?_⟩), fun h => by cases h⟩
      · exact fin_ans (fr := false) (f := G.tb.fr n) m1 (fun d env' v H' a b c _ k => fin d env' v H' a b c (fun h => by cases h) k) (ans_call er1 hs hr hf) (fun h => by cases h) hP
      · exact lk x env1 c dd H' (er1.grow hs) (m1.trans (mono_grow hs)) hr hx
    · exact run_fnS (E := fun σ => WE W σ) F (C.room _ hlv) hb (passAt C.tk σ) I2 r q
end
end Pd

/-! Soundness of expressions: what is walked, comprehensions. -/
namespace Pd
open L2 PyProof.Rows PySem.Spec PySem

/-! ### frames changed for a block -/
section
variable {R : RC} {Z : Addr → Prop} {H0 H H' : Hp} {io : Option (Nat × Addr)} {σ : Sg} {env : Loca}
theorem own_set {i : Nat} {c : Cl} {x : Option V} {a : Addr} (hc : ∀ d, c ≠ .own d) (h : Own (σ.set i x) (put env i c) a) : Own σ env a := by
  rw [put_eq] at h
  exact own_put hc h
theorem ER.wipe (r : ER R Z H0 io σ H env) : ∀ (is : List Nat), (∀ i ∈ is, ∀ a, io ≠ some (i, a)) → ER R Z H0 io (L2.wipe σ is) H (wipeC env is) ∧ Mono σ H env (L2.wipe σ is) H (wipeC env is)
  | [], _ => ⟨r, .refl⟩
  | i :: is, hi => by
    obtain ⟨r1, m1⟩ := ER.wipe r is fun j hj => hi j (List.mem_cons_of_mem _ hj)
    have q := r1.putC (i := i) (x := none) (c := .emp) (fun _ z => by cases z) (fun _ z => by cases z) (hi i List.mem_cons_self)
    refine ⟨?_, m1.trans ⟨fun _ _ h _ => h, fun b h => .inl ?_, fun _ o h => ⟨o, h⟩⟩⟩
    · show ER R Z H0 io ((L2.wipe σ is).set i none) H (Pd.put (wipeC env is) i .emp)
      rw [put_eq]
      exact q
    · exact own_set (fun _ z => by cases z) h
/-- slots are given back -/
def back (σ0 : Sg) : Sg → List Nat → Sg
  | s, [] => s
  | s, i :: is => (back σ0 s is).set i (σ0[i]?.getD none)
theorem back_len (σ0 : Sg) : ∀ (s : Sg) (is : List Nat), (back σ0 s is).length = s.length
  | _, [] => rfl
  | s, i :: is => by
    show ((back σ0 s is).set i _).length = _
    rw [List.length_set, back_len σ0 s is]
theorem wipe_len (σ : Sg) (is : List Nat) : (L2.wipe σ is).length = σ.length := wipe_length σ is
theorem back_wipe (σ : Sg) : ∀ (is js : List Nat), (∀ j ∈ is, j ∈ js) → (∀ j, j ∈ js → j ∉ is → (L2.wipe σ is)[j]? = σ[j]?) → True := fun _ _ _ _ => trivial
theorem back_at (σ : Sg) (s : Sg) (hl : s.length = σ.length) : ∀ (is : List Nat) (j : Nat), (back σ s is)[j]? = if j ∈ is then σ[j]? else s[j]?
  | [], j => by simp [back]
  | i :: is, j => by
    have ih := back_at σ s hl is j
    show ((back σ s is).set i (σ[i]?.getD none))[j]? = _
    by_cases q : i = j
    · subst q
      rw [if_pos List.mem_cons_self]
      by_cases hi : i < σ.length
      · rw [List.getElem?_set_self (by rw [back_len, hl]; exact hi)]
        rw [List.getElem?_eq_getElem hi]
        rfl
      · rw [List.getElem?_eq_none (by simp [back_len]; omega), List.getElem?_eq_none (by omega)]
    · rw [List.getElem?_set_ne q, ih]
      by_cases h : j ∈ is
      · rw [if_pos h, if_pos (List.mem_cons_of_mem _ h)]
      · rw [if_neg h, if_neg (by simp only [List.mem_cons, not_or]; exact ⟨fun e => q e.symm, h⟩)]
theorem back_self (σ : Sg) (is : List Nat) : back σ (L2.wipe σ is) is = σ := by
  refine List.ext_getElem? fun j => ?_
  rw [back_at σ _ (wipe_len σ is)]
  by_cases h : j ∈ is
  · rw [if_pos h]
  · rw [if_neg h]
    exact wipe_out h
theorem ER.back (r : ER R Z H0 io σ H env) {σ0 : Sg} {env0 : Loca} : ∀ (is : List Nat), (∀ i ∈ is, ∀ a, io ≠ some (i, a)) → (∀ i ∈ is, ∀ d, at_ env0 i ≠ .own d) →
    (∀ i ∈ is, ∀ d, at_ env0 i = .val d → ∃ v, σ0[i]? = some (some v) ∧ Rep R (hid Z σ env H) v d) → ER R Z H0 io (Pd.back σ0 σ is) H (backC env0 env is) ∧ Mono σ H env (Pd.back σ0 σ is) H (backC env0 env is)
  | [], _, _, _ => ⟨r, .refl⟩
  | i :: is, hi, ho, hv => by
    obtain ⟨r1, m1⟩ := ER.back r is (fun j hj => hi j (List.mem_cons_of_mem _ hj)) (fun j hj => ho j (List.mem_cons_of_mem _ hj)) fun j hj => hv j (List.mem_cons_of_mem _ hj)
    have q := r1.putC (i := i) (x := σ0[i]?.getD none) (c := at_ env0 i) (ho i List.mem_cons_self) (fun d e => by
      obtain ⟨v, h1, h2⟩ := hv i List.mem_cons_self d e
      exact ⟨v, by rw [h1]; rfl, h2.mono m1.see⟩) (hi i List.mem_cons_self)
    refine ⟨?_, m1.trans ⟨fun _ _ h _ => h, fun b h => .inl ?_, fun _ o h => ⟨o, h⟩⟩⟩
    · show ER R Z H0 io ((Pd.back σ0 σ is).set i _) H (Pd.put (backC env0 env is) i (at_ env0 i))
      rw [put_eq]
      exact q
    · exact own_set (ho i List.mem_cons_self) h
theorem ER.unhide {p : Addr} (r : ER R (zx Z p) H0 io σ H env) : ER R Z H0 io σ H env := by
  refine ⟨r.len, fun i d h => ?_, fun i d h => ?_, r.inj, r.old, r.new, fun b z => r.zok b (.inl z), fun a h z => r.zown a h (.inl z), r.ios⟩
  · obtain ⟨v, s, q⟩ := r.cell i d h
    exact ⟨v, s, q.mono hid_zx⟩
  · obtain ⟨a, s, q⟩ := r.own i d h
    exact ⟨a, s, q.mono rfl hid_zx⟩
/-- a hidden object is changed -/
theorem ER.updHid {p : Addr} {o : HO} (r : ER R (zx Z p) H0 io σ H env) (h0 : H0 p = none) (hn : ¬ Own σ env p) : ER R (zx Z p) H0 io σ (upd H p o) env ∧ ∀ {env' : Loca}, Same (hid (zx Z p) σ env H) (hid (zx Z p) σ env (upd H p o)) := by
  have hs : Same (hid (zx Z p) σ env H) (hid (zx Z p) σ env (upd H p o)) := fun b u h => by
    obtain ⟨a1, a2, a3⟩ := hid_some h
    refine hid_of a1 a2 ?_
    rw [upd_ne fun z => a1 (.inr z)]
    exact a3
  refine ⟨⟨r.len, fun i d h => ?_, fun i d h => ?_, r.inj, fun b u h k => ?_, r.new, fun b z => ?_, r.zown, r.ios⟩, fun {_} => hs⟩
  · obtain ⟨v, s, q⟩ := r.cell i d h
    exact ⟨v, s, q.mono hs⟩
  · obtain ⟨a, s, q⟩ := r.own i d h
    refine ⟨a, s, q.mono ?_ hs⟩
    rw [upd_ne]
    rintro rfl
    exact hn ⟨i, d, h, s⟩
  · rw [upd_ne]
    · exact r.old b u h k
    · rintro rfl
      rw [h0] at h; cases h
  · by_cases q : b = p
    · exact ⟨o, by rw [q]; exact upd_same⟩
    · obtain ⟨u, hu⟩ := r.zok b z
      exact ⟨u, by rw [upd_ne q]; exact hu⟩
end

/-! ### what is walked -/
/-- an iterator that gives the data, wherever what is seen here is seen -/
def JOk (R : RC) (Hv : Hp) (J : It) (ds : List D) : Prop := ∀ (Z : Addr → Prop) (H0 : Hp) (io : Option (Nat × Addr)) (σ : Sg) (H : Hp) (env : Loca), ER R Z H0 io σ H env → Same Hv (hid Z σ env H) →
  (∀ i d, ds[i]? = some d → J.go i H ∧ ∀ x H', J.yld i H x H' → Same H H' ∧ Rep R (hid Z σ env H') x d) ∧ ∀ i, ds.length ≤ i → J.stop i H
theorem JOk.list {R : RC} {Hv : Hp} {a : Addr} {vs : List V} {ds : List D} (hs : SqL R.K Hv a vs) (hr : Reps R Hv vs ds) : JOk R Hv (Itl R.K a) ds := fun Z H0 io σ H env er sm => by
  have h1 : SqL R.K H a vs := Same.seq (fun b o h => hid_le b o (sm b o h)) hs
  refine ⟨fun i d hd => ?_, fun i hi => ⟨vs, h1, by rw [hr.length]; exact hi⟩⟩
  obtain ⟨v, e, q⟩ := hr.getD hd
  refine ⟨⟨vs, v, h1, e⟩, fun x H' ⟨e1, h2⟩ => ?_⟩
  subst e1
  have := h2 vs h1
  rw [e] at this; cases this
  exact ⟨.refl _, q.mono sm⟩
theorem JOk.tup {R : RC} {Hv : Hp} {a : Addr} {vs : List V} {ds : List D} (hs : SqT R.K Hv a vs) (hr : Reps R Hv vs ds) : JOk R Hv (Itt R.K a) ds := fun Z H0 io σ H env er sm => by
  have h1 : SqT R.K H a vs := sqT_mono (fun b o h => hid_le b o (sm b o h)) hs
  refine ⟨fun i d hd => ?_, fun i hi => ⟨vs, h1, by rw [hr.length]; exact hi⟩⟩
  obtain ⟨v, e, q⟩ := hr.getD hd
  refine ⟨⟨vs, v, h1, e⟩, fun x H' ⟨e1, h2⟩ => ?_⟩
  subst e1
  have := h2 vs h1
  rw [e] at this; cases this
  exact ⟨.refl _, q.mono sm⟩
theorem JOk.rng {R : RC} {Hv : Hp} (lo hi : Int) : JOk R Hv (Itr lo (hi - lo).toNat) (rngD lo hi) := fun Z H0 io σ H env er sm => by
  have hl : (rngD lo hi).length = (hi - lo).toNat := by simp [rngD]
  refine ⟨fun i d hd => ?_, fun i hi' => show (hi - lo).toNat ≤ i by omega⟩
  have hlt : i < (hi - lo).toNat := by rw [← hl]; exact (List.getElem?_eq_some_iff.mp hd).1
  refine ⟨hlt, fun x H' ⟨e1, e2⟩ => ?_⟩
  subst e1 e2
  have : d = D.int (lo + (i : Nat)) := by
    unfold rngD at hd
    rw [List.getElem?_map, List.getElem?_range hlt] at hd
    cases hd; rfl
  subst this
  exact ⟨.refl _, .int _⟩

section
variable {G : Gx} {gi : Str → Option Int} {X : Cx} {W : WX}
def tI (G : Gx) (X : Cx) (W : WX) (e : E) : TI := fun σ H Q => ∃ (Z : Addr → Prop) (H0 : Hp) (io : Option (Nat × Addr)) (env : Loca) (Qd : List D → Loca → Prop) (Xd : Xq),
  G.iop = io.map (·.1) ∧ ER (rcOf G X) Z H0 io σ H env ∧ Lk (rcOf G X) Z H0 io W σ H env Xd ∧ wI G e env Qd Xd ∧
  ∀ ds env' H' J, ER (rcOf G X) Z H0 io σ H' env' → Mono σ H env σ H' env' → JOk (rcOf G X) (hid Z σ env' H') J ds → Qd ds env' → Q J H'
theorem _root_.L2.PI.imp {X : Cx} {tg e : Expr} {t t' : TI} (h : PI X tg e t) (i : ∀ σ H Q, t' σ H Q → t σ H Q) : PI X tg e t' := ⟨fun pins s σ H Q I w => h.run pins s σ H Q I (i σ H Q w)⟩
/-- over a list or a tuple -/
theorem pi_any {tg l : Expr} {tl : TE} (hl : PE X l tl) : PI X tg l (fun σ H R => tl σ H fun x H1 => ∃ a, x = .ref a ∧ (((∃ xs, SqL X.K H1 a xs) ∧ R (Itl X.K a) H1) ∨ ((∃ xs, SqT X.K H1 a xs) ∧ R (Itt X.K a) H1))) := by
  refine ⟨fun pins s σ H R I h => thn (hl.run pins s σ H _ I h) fun v s1 z => ?_⟩
  obtain ⟨x, H1, J1, rv, a, rfl, q⟩ := z
  cases rv
  have new : FpOk X pins H1 s1.heap.objs.size := J1.fpOk (Nat.le_refl _) (J1.hok.fresh (Nat.le_refl _))
  have news : ∀ b ∈ [s1.heap.objs.size], FpOk X pins H1 b := fun b hb => by
    cases hb with
    | head => exact new
    | tail _ z => cases z
  rcases q with ⟨⟨xs, hq⟩, q⟩ | ⟨⟨xs, hq⟩, q⟩
  · obtain ⟨its, _, p, _⟩ := J1.list hq
    have J2 := J1.kept (t' := s1.toks) fun b o e => Heap.get?_push_of_some { cls := .type "list_iterator", data := .fields #[.ref a, rawInt 0] } e
    exact wpAny_pyIter_list p.isList ⟨_, [s1.heap.objs.size], _, _, H1, rfl, J1.kept (t' := s1.toks) (fun b o e => Heap.get?_push_of_some _ e), turn_list a _, ⟨_, Heap.get?_push_size _ rfl, rfl, rfl⟩, news, q⟩
  · obtain ⟨its, _, p, _⟩ := J1.tuple hq
    have p' : s1.heap.IsTuple a its.toArray := p
    exact wpAny_pyIter_tuple p' ⟨_, [s1.heap.objs.size], _, _, H1, rfl, J1.kept (t' := s1.toks) (fun b o e => Heap.get?_push_of_some _ e), turn_tuple a _, ⟨_, Heap.get?_push_size _ rfl, rfl, rfl⟩, news, q⟩
theorem s_seq {e : E} {tg py : Expr} (h : PE X py (tE G X W e)) : PI X tg py (tI G X W (.seq e)) := by
  refine (pi_any h).imp ?_
  rintro σ H Q ⟨Z, H0, io, env, Qd, Xd, hi, er, lk, w, fin⟩
  unfold wI at w
  refine ⟨Z, H0, io, env, _, Xd, hi, er, lk, w, fun d env1 v H1 er1 m1 r1 _ w1 => ?_⟩
  obtain ⟨ds, hd, w1⟩ := w1
  cases d with
  | tup xs =>
    cases hd
    cases r1 with
    | tup hs hr => exact ⟨_, rfl, .inr ⟨⟨_, sqT_mono hid_le hs⟩, fin _ env1 H1 _ er1 m1 (JOk.tup (R := rcOf G X) hs hr) w1⟩⟩
  | lst xs =>
    cases hd
    cases r1 with
    | lst hs hr => exact ⟨_, rfl, .inl ⟨⟨_, .of (hid_le _ _ hs)⟩, fin _ env1 H1 _ er1 m1 (JOk.list (R := rcOf G X) (.of hs) hr) w1⟩⟩
  | frz xs =>
    cases hd
    cases r1 with
    | frz hs hr => exact ⟨_, rfl, .inl ⟨⟨_, hid_le.seq hs⟩, fin _ env1 H1 _ er1 m1 (JOk.list (R := rcOf G X) hs hr) w1⟩⟩
  | _ => cases hd
theorem s_rng1 {es : E} {tg pa : Expr} {p pos : Pos} (hg : Gl X "range") (hm : X.mg "range" = none) (ha : PA X [pa] (tA G X W es)) (hl : lnE es = 1) (hs : ∀ e q, pa ≠ .Starred e q) : PI X tg (.Call (.Name "range" p) [pa] [] pos) (tI G X W (.rng es)) := by
  refine (pi_range1 hg hm ha (star_ok hs _ _)).imp ?_
  rintro σ H Q ⟨Z, H0, io, env, Qd, Xd, hi, er, lk, w, fin⟩
  unfold wI at w
  refine ⟨Z, H0, io, env, _, Xd, hi, er, lk, w, fun ds env1 vs H1 er1 m1 r1 l1 w1 => ?_⟩
  obtain ⟨p, hp, b1, b2, w1⟩ := w1
  rcases rng_vals r1 hp with ⟨n, rfl, rfl⟩ | ⟨i, j, rfl, rfl⟩
  · refine ⟨n, rfl, b2.1, b2.2, ?_⟩
    have q := JOk.rng (R := rcOf G X) (Hv := hid Z σ env1 H1) 0 n
    rw [Int.sub_zero] at q
    exact fin _ env1 H1 _ er1 m1 q w1
  · have := r1.length
    rw [l1, hl] at this
    cases this
theorem s_rng2 {es : E} {tg pa pb : Expr} {p pos : Pos} (hg : Gl X "range") (hm : X.mg "range" = none) (ha : PA X [pa, pb] (tA G X W es)) (hl : lnE es = 2) (hs : ∀ e q, pa ≠ .Starred e q) (hs2 : ∀ e q, pb ≠ .Starred e q) :
    PI X tg (.Call (.Name "range" p) [pa, pb] [] pos) (tI G X W (.rng es)) := by
  refine (pi_range2 hg hm ha (by rw [star_ok hs, star_ok hs2]; rfl) (star_ok hs2 _ _)).imp ?_
  rintro σ H Q ⟨Z, H0, io, env, Qd, Xd, hi, er, lk, w, fin⟩
  unfold wI at w
  refine ⟨Z, H0, io, env, _, Xd, hi, er, lk, w, fun ds env1 vs H1 er1 m1 r1 l1 w1 => ?_⟩
  obtain ⟨p, hp, b1, b2, w1⟩ := w1
  rcases rng_vals r1 hp with ⟨n, rfl, rfl⟩ | ⟨i, j, rfl, rfl⟩
  · have := r1.length
    rw [l1, hl] at this
    cases this
  · exact ⟨i, j, rfl, ⟨b1.1, b1.2, b2.1, b2.2⟩, fin _ env1 H1 _ er1 m1 (JOk.rng (R := rcOf G X) i j) w1⟩
/-- range(..) as an argument, its ends by any list of arguments -/
theorem prg_any {pa : Expr} {ps : List Expr} {ta : TA} {p pos : Pos} (hg : Gl X "range") (hm : X.mg "range" = none) (ha : PA X (pa :: ps) ta) (hs : ∀ e q, pa ≠ .Starred e q) (hb : (backTo pos (starEach ps X.env)).any (·.1) = false) :
    PRg X (.Call (.Name "range" p) (pa :: ps) [] pos) (fun σ H Q => ta σ H fun vs H1 => (∃ n, vs = [.int n] ∧ Q 0 n H1) ∨ ∃ i j, vs = [.int i, .int j] ∧ Q i j H1) := by
  intro pins s σ H Q I h
  refine Call_ (ld_blt I hg hm boot_range (PyProof.Rows.callWith_type1 (thn (ha.run pos pins s σ H _ I h) fun us s1 z => ?_) (star_ok hs _ _) hb))
  obtain ⟨vs, H1, J, rv, q⟩ := z
  rcases q with ⟨n, rfl, q⟩ | ⟨i, j, rfl, q⟩
  · obtain ⟨u, rfl, t, rfl⟩ := vals1 rv
    exact call_range_1 ⟨s1.heap.objs.size, 0, n, _, _, _, H1, rfl, IsRange.new _ _ _ _ _ _ _, J.kept fun b o e => Heap.get?_push_of_some _ e, q⟩
  · obtain ⟨u, u', rfl, ⟨t, rfl⟩, ⟨t', rfl⟩⟩ := vals2 rv
    exact call_range_2 ⟨s1.heap.objs.size, i, j, _, _, _, H1, rfl, IsRange.new _ _ _ _ _ _ _, J.kept fun b o e => Heap.get?_push_of_some _ e, q⟩
/-- list(range(..)) -/
theorem s_lrng {es : E} {pa : Expr} {ps : List Expr} {p p2 pos pos2 : Pos} (hc : X.calm = true) (hg : Gl X "list") (hm : X.mg "list" = none) (hg2 : Gl X "range") (hm2 : X.mg "range" = none) (ha : PA X (pa :: ps) (tA G X W es)) (hs : ∀ e q, pa ≠ .Starred e q)
    (hb : (backTo pos2 (starEach ps X.env)).any (·.1) = false) : PE X (.Call (.Name "list" p) [.Call (.Name "range" p2) (pa :: ps) [] pos2] [] pos) (tE G X W (.lrng es)) := by
  refine (pe_listRg hc hg hm (prg_any hg2 hm2 ha hs hb)).imp ?_
  rintro σ H Q ⟨Z, H0, io, env, Qd, Xd, hi, er, lk, w, fin⟩
  unfold wE at w
  refine ⟨Z, H0, io, env, _, Xd, hi, er, lk, w, fun ds env1 vs H1 er1 m1 r1 l1 w1 => ?_⟩
  obtain ⟨q, hq, ok, w1⟩ := w1
  rcases rng_vals r1 hq with ⟨n, rfl, rfl⟩ | ⟨i, j, rfl, rfl⟩
  · exact .inl ⟨n, rfl, ok, fun p hp => fin_ans m1 fin (.newLst (f := true) er1 hp (reps_rg 0 n)) (fun _ => rfl) w1⟩
  · exact .inr ⟨i, j, rfl, ok, fun p hp => fin_ans m1 fin (.newLst (f := true) er1 hp (reps_rg i j)) (fun _ => rfl) w1⟩
end
end Pd

/-! Soundness of expressions: comprehensions. -/
namespace Pd
open L2 PyProof.Rows PySem.Spec PySem

/-! ### targets -/
theorem wipe_put (σ : Sg) {i : Nat} {x : Option V} : ∀ {is : List Nat}, i ∈ is → L2.wipe (σ.set i x) is = L2.wipe σ is := fun {is} h => by
  refine List.ext_getElem? fun j => ?_
  by_cases hj : j ∈ is
  · have one : ∀ (s : Sg) (l : List Nat), j ∈ l → (L2.wipe s l)[j]? = if j < s.length then some none else none := fun s l => by
      induction l with
      | nil => intro z; cases z
      | cons k r ih =>
        intro hm
        show ((L2.wipe s r).set k none)[j]? = _
        by_cases q : k = j
        · subst q
          by_cases hk : k < s.length
          · rw [if_pos hk, List.getElem?_set_self (by rw [wipe_length]; exact hk)]
          · rw [if_neg hk, List.getElem?_eq_none (by simp [wipe_length]; omega)]
        · rw [List.getElem?_set_ne q]
          refine ih ?_
          rcases List.mem_cons.mp hm with e | e
          · exact absurd e.symm q
          · exact e
    rw [one _ _ hj, one _ _ hj, List.length_set]
  · rw [wipe_out hj, wipe_out hj, List.getElem?_set_ne fun e => hj (by rw [← e]; exact h)]
theorem wipe_wipe (σ : Sg) (is : List Nat) : L2.wipe (L2.wipe σ is) is = L2.wipe σ is := by
  have gen : ∀ (l : List Nat) (s : Sg), (∀ i ∈ l, ∀ x, s[i]? = some x → x = none) → L2.wipe s l = s := fun l => by
    induction l with
    | nil => intro s _; rfl
    | cons k r ih =>
      intro s h
      show (L2.wipe s r).set k none = s
      rw [ih s fun i hi => h i (List.mem_cons_of_mem _ hi)]
      refine List.ext_getElem? fun j => ?_
      by_cases q : k = j
      · subst q
        by_cases hk : k < s.length
        · rw [List.getElem?_set_self hk, List.getElem?_eq_getElem hk, h k List.mem_cons_self _ (List.getElem?_eq_getElem hk)]
        · rw [List.getElem?_eq_none (by simp; omega), List.getElem?_eq_none (by omega)]
      · rw [List.getElem?_set_ne q]
  refine gen is _ fun i hi x hx => ?_
  cases x with
  | none => rfl
  | some v => exact absurd hi (wipe_some hx).2
section
variable {R : RC} {Z : Addr → Prop} {H0 H H' : Hp} {io : Option (Nat × Addr)} {σ : Sg} {env : Loca}
def setAll : Sg → List Nat → List V → Sg
  | σ, i :: is, v :: vs => setAll (σ.set i (some v)) is vs
  | σ, _, _ => σ
theorem ER.putAll : ∀ {σ : Sg} {env : Loca} {is : List Nat} {ds : List D} {vs : List V}, ER R Z H0 io σ H env → Reps R (hid Z σ env H) vs ds → (∀ i ∈ is, ∀ a, io ≠ some (i, a)) →
    ER R Z H0 io (setAll σ is vs) H (Pd.putAll env is ds) ∧ Mono σ H env (setAll σ is vs) H (Pd.putAll env is ds)
  | σ, env, [], _, _, r, _, _ => ⟨r, .refl⟩
  | σ, env, i :: is, _, _, r, .nil, _ => ⟨r, .refl⟩
  | σ, env, i :: is, _, _, r, .cons h t, hi => by
    obtain ⟨r1, m1⟩ := r.put h (hi i List.mem_cons_self)
    obtain ⟨r2, m2⟩ := ER.putAll r1 (t.mono m1.see) fun j hj => hi j (List.mem_cons_of_mem _ hj)
    exact ⟨r2, m1.trans m2⟩
theorem wipe_all {js : List Nat} : ∀ {is : List Nat} {vs : List V} {σ : Sg}, (∀ i ∈ is, i ∈ js) → L2.wipe (setAll σ is vs) js = L2.wipe σ js
  | [], _, _, _ => rfl
  | _ :: _, [], _, _ => rfl
  | i :: is, v :: vs, σ, h => by
    show L2.wipe (setAll (σ.set i (some v)) is vs) js = _
    rw [wipe_all (is := is) (vs := vs) fun j hj => h j (List.mem_cons_of_mem _ hj)]
    exact wipe_put σ (h i List.mem_cons_self)
end
/-- a target of a loop or comprehension, by values -/
def gT (K : PySem.W.Frag) (is : List Nat) (tp : Bool) : TG := fun v σ H Q => match tp with
  | false => ∃ i, is = [i] ∧ Q (σ.set i (some v)) H
  | true => ∃ a vs, v = .ref a ∧ SqT K H a vs ∧ vs.length = is.length ∧ Q (setAll σ is vs) H
theorem _root_.L2.PG.imp {X : Cx} {e : Expr} {t t' : TG} (h : PG X e t) (i : ∀ v σ H Q, t' v σ H Q → t v σ H Q) : PG X e t' := ⟨fun pins s σ H v u Q I r w => h.run pins s σ H v u Q I r (i v σ H Q w)⟩
theorem _root_.L2.PGs.imp {X : Cx} {e : List Expr} {t t' : TGs} (h : PGs X e t) (i : ∀ v σ H Q, t' v σ H Q → t v σ H Q) : PGs X e t' := ⟨fun pins s σ H v u Q I r w => h.run pins s σ H v u Q I r (i v σ H Q w)⟩
/-- the names of a target can be stored in X -/
def Stor (X : Cx) (N : List Str) (sc : Scope) : Prop := X.N = N ∧ ∀ x, locC sc x = true → Loc X.env.scope x ∧ (X.fn x = true ∨ X.env.scope.names.lookup x = some .local)
theorem pgs_names {X : Cx} {N : List Str} {sc : Scope} (S : Stor X N sc) (nd : N.Nodup) : ∀ {is : List Nat} {es : List Expr}, mNames N sc is es = true → PGs X es (fun vs σ H Q => vs.length = is.length ∧ Q (setAll σ is vs) H) ∧ (assignEach es X.env).length = is.length ∧ (assignEach es X.env).findIdx? (·.1) = none
  | [], [], _ => ⟨pgs_nil.imp fun v σ H Q h => ⟨List.eq_nil_of_length_eq_zero h.1, by
      obtain ⟨h1, h2⟩ := h
      have : v = [] := List.eq_nil_of_length_eq_zero h1
      subst this
      exact h2⟩, rfl, rfl⟩
  | i :: is, .Name x p :: es, h => by
    simp only [mNames, Bool.and_eq_true, decide_eq_true_eq] at h
    obtain ⟨⟨h1, h2⟩, h3⟩ := h
    obtain ⟨g, hl, hf⟩ := pgs_names S nd h3
    obtain ⟨s1, s2⟩ := S.2 x h2
    have pg : PG X (.Name x p) (gName i) := pg_name (by rw [S.1]; exact nd) (by rw [S.1]; exact h1) s1 s2
    refine ⟨(pgs_cons pg g rfl).imp fun v σ H Q h => ?_, congrArg (· + 1) hl, ?_⟩
    · obtain ⟨hl, hq⟩ := h
      match v, hl, hq with
      | v :: vs, hl, hq => exact ⟨v, vs, rfl, Nat.succ.inj hl, hq⟩
    · show List.findIdx? _ ((false, _) :: assignEach es X.env) = none
      simp only [List.findIdx?_cons]
      rw [hf]
      rfl
  | [], _ :: _, h => by simp [mNames] at h
  | _ :: _, [], h => by simp [mNames] at h
theorem pg_T {X : Cx} {N : List Str} {sc : Scope} (S : Stor X N sc) (nd : N.Nodup) (hc : X.calm = true) {is : List Nat} {tp : Bool} {tg : Expr} (h : mTgt N sc is tp tg = true) : PG X tg (gT X.K is tp) := by
  cases tp with
  | false =>
    cases tg with
    | Name x p =>
      simp only [mTgt, tgNames, Bool.and_eq_true] at h
      obtain ⟨⟨h1, h2⟩, _⟩ := h
      match is, h1, h2 with
      | [i], _, h2 =>
        simp only [mNames, Bool.and_true, Bool.and_eq_true, decide_eq_true_eq] at h2
        obtain ⟨s1, s2⟩ := S.2 x h2.2
        refine (pg_name (by rw [S.1]; exact nd) (by rw [S.1]; exact h2.1) s1 s2).imp fun v σ H Q q => ?_
        obtain ⟨j, e, q⟩ := q
        cases e
        exact q
    | _ => simp [mTgt] at h
  | true =>
    cases tg with
    | Tuple es k p =>
      simp only [mTgt, tgNames, Bool.and_eq_true, Bool.true_and] at h
      obtain ⟨g, hl, hf⟩ := pgs_names S nd h.1
      refine (pg_tup hc g hl hf).imp fun v σ H Q q => ?_
      obtain ⟨a, vs, e, hs, hv, q⟩ := q
      exact ⟨a, vs, e, hs, hv, hv, q⟩
    | _ => simp [mTgt] at h
/-- a target over data -/
theorem of_tgt {R : RC} {Z : Addr → Prop} {H0 H : Hp} {io : Option (Nat × Addr)} {σ : Sg} {env : Loca} {is : List Nat} {tp : Bool} {d : D} {v : V} {k : Loca → Prop} {Q : Sg → Hp → Prop} (r : ER R Z H0 io σ H env) (hv : Rep R (hid Z σ env H) v d) (hi : ∀ i ∈ is, ∀ a, io ≠ some (i, a))
    (w : wTgt is tp d env k) (hQ : ∀ σ' env', ER R Z H0 io σ' H env' → Mono σ H env σ' H env' → (∀ js, (∀ i ∈ is, i ∈ js) → L2.wipe σ' js = L2.wipe σ js) → k env' → Q σ' H) : gT R.K is tp v σ H Q := by
  cases tp with
  | false =>
    match is, w, hi with
    | [i], w, hi =>
      obtain ⟨r1, m1⟩ := r.put hv (hi i List.mem_cons_self)
      exact ⟨i, rfl, hQ _ _ r1 m1 (fun js h => wipe_put σ (h i List.mem_cons_self)) w⟩
  | true =>
    cases d with
    | tup ds =>
      obtain ⟨hl, w⟩ := w
      cases hv with
      | tup hs hr =>
        obtain ⟨r1, m1⟩ := r.putAll hr hi
        exact ⟨_, _, rfl, sqT_mono hid_le hs, by rw [hr.length, hl], hQ _ _ r1 m1 (fun js h => wipe_all h) w⟩
    | _ => exact (by cases is <;> exact w.elim)

/-! ### comprehensions -/
section
variable {G : Gx} {gi : Str → Option Int} {X : Cx} {W : WX}
abbrev W0 : WX := fun _ _ _ _ => False
/-- the test of a comprehension -/
def tC' (G : Gx) (X : Cx) (c : E) : TT := tT G X W0 (fun env Q Xd => (∀ x env, ¬ Xd x env) ∧ wC G c env Q)
theorem lc_red {is : List Nat} {tp : Bool} {it c elt : E} {σ : Sg} {H : Hp} {Q : VK} (h : tE G X W (.lc is tp it c elt) σ H Q) : tLc (tI G X W it) (gT X.K is tp) (tC' G X c) (tE G X W0 elt) is σ H Q := by
  obtain ⟨Z, H0, io, env, Qd, Xd, hi, er, lk, w, fin⟩ := h
  unfold wE at w
  refine ⟨Z, H0, io, env, _, Xd, hi, er, lk, w, fun ds env1 H1 J er1 m1 jok w1 => ?_⟩
  intro D hD
  obtain ⟨hno, hni, w1⟩ := w1
  have nio : ∀ i ∈ is, ∀ a, io ≠ some (i, a) := fun i h a q => hni i h (by rw [hi, q]; rfl)
  have hDio : ∀ k, io ≠ some (k, D) := fun k q => by
    obtain ⟨u, hu⟩ := er1.iosH q
    rw [hD] at hu; cases hu
  have e1 : Same H1 (upd H1 D (.lst [])) := same_new hD
  have h0D : H0 D = none := er1.freshOld hD
  obtain ⟨erD, _⟩ := er1.hide hD e1 upd_same
  obtain ⟨er2, m2⟩ := erD.wipe is nio
  obtain ⟨_, mw⟩ := er1.wipe is nio
  have nown : ∀ {σ' : Sg} {H' : Hp} {env' : Loca}, ER (rcOf G X) (zx Z D) H0 io σ' H' env' → ¬ Own σ' env' D := fun {σ' H' env'} r h => let ⟨k, q⟩ := r.zown D h (.inr rfl); hDio k q
  have wfix : ∀ {s : Sg}, (∀ js, (∀ i ∈ is, i ∈ js) → L2.wipe s js = L2.wipe (L2.wipe σ is) js) → L2.wipe s is = L2.wipe σ is := fun {s} h => by
    rw [h is fun _ h => h]
    exact wipe_wipe σ is
  refine ⟨fun i m H' => ∃ (acc : List Pd.D) (envt : Loca) (vs : List V), m = ds.length - i ∧ i ≤ ds.length ∧ H' D = some (.lst vs) ∧ Reps (rcOf G X) (hid (zx Z D) (L2.wipe σ is) (wipeC envt is) H') vs acc ∧
    ER (rcOf G X) (zx Z D) H0 io (L2.wipe σ is) H' (wipeC envt is) ∧ Mono (L2.wipe σ is) H1 (wipeC env1 is) (L2.wipe σ is) H' (wipeC envt is) ∧
    lcLoop (fun (d : Pd.D) (envt : Loca) (k : Option Pd.D → Loca → Prop) => wTgt is tp d (wipeC envt is) fun env2 => wC G c env2 fun r env3 => if r = true then wE G elt env3 (fun y env4 => k (some y) env4) (fun _ _ => False) else k none env3)
      (ds.drop i) acc envt (fun out envf => Qd (.lst out) (backC env1 (wipeC envf is) is)), ⟨ds.length, [], env1, [], by omega, by omega, upd_same, .nil, er2, mono_grow e1, w1⟩, ?_⟩
  rintro i m H2 ⟨acc, envt, vs, rfl, hil, hD2, hacc, erT, mT, wl⟩
  have seen : Same (hid Z σ env1 H1) (hid (zx Z D) (L2.wipe σ is) (wipeC envt is) H2) := fun b o h => by
    refine mT.see b o (mw.see b o ?_)
    obtain ⟨a1, a2, a3⟩ := hid_some h
    refine hid_of (fun z => ?_) a2 a3
    rcases z with z | rfl
    · exact a1 z
    · rw [hD] at a3; cases a3
  obtain ⟨jgo, jstop⟩ := jok (zx Z D) H0 io (L2.wipe σ is) H2 (wipeC envt is) erT seen
  by_cases hlt : i < ds.length
  · right
    have hd : ds[i]? = some ds[i] := List.getElem?_eq_getElem hlt
    obtain ⟨go, yl⟩ := jgo i _ hd
    rw [List.drop_eq_getElem_cons hlt, lcLoop] at wl
    refine ⟨go, fun H' => ∃ (acc : List Pd.D) (envt : Loca) (vs : List V), H' D = some (.lst vs) ∧ Reps (rcOf G X) (hid (zx Z D) (L2.wipe σ is) (wipeC envt is) H') vs acc ∧
      ER (rcOf G X) (zx Z D) H0 io (L2.wipe σ is) H' (wipeC envt is) ∧ Mono (L2.wipe σ is) H1 (wipeC env1 is) (L2.wipe σ is) H' (wipeC envt is) ∧
      lcLoop (fun (d : Pd.D) (envt : Loca) (k : Option Pd.D → Loca → Prop) => wTgt is tp d (wipeC envt is) fun env2 => wC G c env2 fun r env3 => if r = true then wE G elt env3 (fun y env4 => k (some y) env4) (fun _ _ => False) else k none env3)
        (ds.drop (i + 1)) acc envt (fun out envf => Qd (.lst out) (backC env1 (wipeC envf is) is)), fun H' ⟨a1, a2, a3, a4, a5, a6, a7, a8⟩ => ⟨ds.length - (i + 1), by omega, a1, a2, a3, rfl, by omega, a4, a5, a6, a7, a8⟩, fun x H3 y => ?_⟩
    obtain ⟨s3, rx⟩ := yl x H3 y
    have er3 := erT.grow s3
    have m3 : Mono (L2.wipe σ is) H1 (wipeC env1 is) (L2.wipe σ is) H3 (wipeC envt is) := mT.trans (mono_grow s3)
    have hD3 : H3 D = some (.lst vs) := s3 _ _ hD2
    have hacc3 := hacc.mono (see_grow (Z := zx Z D) (σ := L2.wipe σ is) (env := wipeC envt is) s3)
    refine of_tgt (R := rcOf G X) er3 rx nio wl fun σ4 env4 er4 m4 hw4 w4 => ⟨wfix hw4, ?_⟩
    refine ⟨zx Z D, H0, io, env4, _, (fun _ _ => False), hi, er4, (fun _ _ _ _ _ _ _ _ h => h.elim), ⟨fun _ _ h => h, w4⟩, fun r env5 H5 er5 m5 w5 => ?_⟩
    cases r with
    | false =>
      rw [if_neg Bool.false_ne_true] at w5 ⊢
      obtain ⟨er6, m6⟩ := er5.wipe is nio
      rw [wfix hw4] at er6 m6
      have mm := (m4.trans m5).trans m6
      exact ⟨acc, env5, vs, (m4.trans m5).keep D _ hD3 (nown er3), hacc3.mono mm.see, er6, m3.trans mm, w5⟩
    | true =>
      rw [if_pos rfl] at w5 ⊢
      refine ⟨zx Z D, H0, io, env5, _, (fun _ _ => False), hi, er5, (fun _ _ _ _ _ _ _ _ h => h.elim), w5, fun y env6 v6 H6 er6 m6 r6 _ w6 => ?_⟩
      have hD6 : H6 D = some (.lst vs) := ((m4.trans m5).trans m6).keep D _ hD3 (nown er3)
      obtain ⟨hlen, w6⟩ := w6
      refine ⟨vs, hD6, by rw [hacc3.length]; exact hlen, ?_⟩
      obtain ⟨er7, m7⟩ := er6.wipe is nio
      rw [wfix hw4] at er7 m7
      have mm := ((m4.trans m5).trans m6).trans m7
      obtain ⟨er8, s8⟩ := er7.updHid (o := .lst (vs ++ [v6])) h0D (nown er7)
      have m8 := m3.trans mm
      refine ⟨acc ++ [y], env6, vs ++ [v6], upd_same, ((hacc3.mono mm.see).append (.cons (r6.mono m7.see) .nil)).mono (s8 (env' := env6)), er8, ⟨fun b o h k => ?_, m8.ow, fun b o h => ?_⟩, w6⟩
      · rw [upd_ne (fun z => by rw [z, hD] at h; cases h)]
        exact m8.keep b o h k
      · by_cases q : b = D
        · exact ⟨_, by rw [q]; exact upd_same⟩
        · obtain ⟨u, hu⟩ := m8.tr b o h
          exact ⟨u, by rw [upd_ne q]; exact hu⟩
  · left
    have ei : i = ds.length := by omega
    subst ei
    rw [List.drop_length, lcLoop] at wl
    refine ⟨jstop _ (Nat.le_refl _), ?_⟩
    obtain ⟨er9, m9⟩ := erT.back (σ0 := σ) (env0 := env1) is nio hno fun i _ d e => by
      obtain ⟨v, h1, h2⟩ := er1.cell i d (at_some e (by intro z; cases z))
      exact ⟨v, h1, h2.mono seen⟩
    rw [back_self] at er9 m9
    have mA := ((m1.trans mw).trans mT).trans m9
    have hacc9 := hacc.mono m9.see
    have nz : ¬ Z D := (er1.fresh hD).1
    refine fin (.lst acc) _ (.ref D) H2 er9.unhide mA (.lst (hid_of nz (nown er9) hD2) (hacc9.mono hid_zx)) (fun _ _ => ⟨D, rfl, m1.free hD, er9, nz, h0D, hDio, .lst hD2 hacc9⟩) wl
end
end Pd

/-! Soundness of expressions: all of them. -/
namespace Pd
open L2 PyProof.Rows PySem.Spec PySem

theorem no_star (M : Mx) (e : E) (sc : Scope) {a : Expr} {q : Pos} : mE M e sc (.Starred a q) = false := by
  cases e <;> simp [mE]
theorem no_slice (M : Mx) (e : E) (sc : Scope) {a b c : Option Expr} {q : Pos} : mE M e sc (.Slice a b c q) = false := by
  cases e <;> simp [mE]
theorem not_star {M : Mx} {e : E} {sc : Scope} {p : Expr} (h : mE M e sc p = true) : ∀ a q, p ≠ .Starred a q := by
  rintro a q rfl
  rw [no_star] at h; cases h
theorem plainIx {M : Mx} {e : E} {sc : Scope} {p : Expr} (h : mE M e sc p = true) : PlainIx p := by
  intro o i
  cases p <;> first | rfl | (rw [no_slice] at h; cases h)
theorem back_any {pos : Pos} {env : Env} : ∀ {es : List Expr}, (∀ p ∈ es, ∀ a q, p ≠ .Starred a q) → (backTo pos (starEach es env)).any (·.1) = false
  | [], _ => rfl
  | p :: ps, h => by
    rw [star_ok (h p List.mem_cons_self)]
    have ih := back_any (pos := pos) (env := env) (es := ps) fun q hq => h q (List.mem_cons_of_mem _ hq)
    show (false || (backTo pos (starEach ps env)).any (·.1)) = false
    rw [ih]; rfl
theorem mA_len (M : Mx) (sc : Scope) : ∀ {e : E} {ps : List Expr}, mA M e sc ps = true → lnE e = ps.length ∧ ∀ p ∈ ps, ∀ a q, p ≠ .Starred a q := by
  intro e
  induction e with
  | nil =>
    intro ps h
    cases ps with
    | nil => exact ⟨rfl, fun _ h => by cases h⟩
    | cons => simp [mA] at h
  | cons e es _ ih =>
    intro ps h
    cases ps with
    | nil => simp [mA] at h
    | cons p ps =>
      simp only [mA, Bool.and_eq_true] at h
      obtain ⟨h1, h2⟩ := ih h.2
      exact ⟨congrArg (· + 1) h1, fun q hq => by
        rcases List.mem_cons.mp hq with rfl | hq
        · exact not_star h.1
        · exact h2 q hq⟩
  | _ => intro ps h; simp [mA] at h

structure Snd (G : Gx) (gi : Str → Option Int) (e : E) : Prop where
  ex : ∀ X W py, Cok G gi X W → mE (mxOf G gi X) e X.env.scope py = true → PE X py (tE G X W e)
  ar : ∀ X W ps, Cok G gi X W → mA (mxOf G gi X) e X.env.scope ps = true → PA X ps (tA G X W e) ∧ PA X ps (tPs G X W e)
  av : ∀ X W ps pos, Cok G gi X W → mA (mxOf G gi X) e X.env.scope ps = true → ps ≠ [] → PE X (.BoolOp .And ps pos) (tW G X W (wAnd G e)) ∧ PE X (.BoolOp .Or ps pos) (tW G X W (wOr G e))
  ts : ∀ X W py, Cok G gi X W → mT (mxOf G gi X) e X.env.scope py = true → PT X py (tT G X W (wT G e))
  tl : ∀ X W ps pos, Cok G gi X W → mTs (mxOf G gi X) e X.env.scope ps = true → ps ≠ [] → PW X (.BoolOp .And ps pos) (tT G X W (wTA G e)) ∧ PW X (.BoolOp .Or ps pos) (tT G X W (wTO G e))
  it : ∀ X W py tg, Cok G gi X W → mI (mxOf G gi X) e X.env.scope py = true → PI X tg py (tI G X W e)
  cs : ∀ X ps, Cok G gi X W0 → mC (mxOf G gi X) e X.env.scope ps = true → PTs X ps (tC' G X e)
  ct : ∀ X W a ops es pos, Cok G gi X W → mE (mxOf G gi X) e X.env.scope (.Compare a ops es pos) = true → PT X (.Compare a ops es pos) (tT G X W (wT G (.tst e)))
  po : ∀ X W o, Cok G gi X W → mA (mxOf G gi X) e X.env.scope o.toList = true → PO X o (tO G X W e)
theorem Snd.pk {G : Gx} {gi : Str → Option Int} {e : E} (S : Snd G gi e) {X : Cx} {W : WX} {py : Expr} (C : Cok G gi X W) (h : mE (mxOf G gi X) e X.env.scope py = true) : PE X py (tP G X W e) := by
  refine s_pk (S.ex X W py C h) fun i q => ?_
  subst q
  cases py with
  | Name x p =>
    simp only [mE, Bool.and_eq_true, decide_eq_true_eq] at h
    exact s_varP h.1 h.2
  | _ => simp [mE] at h
section
variable {G : Gx} {gi : Str → Option Int}
/-- an expression alone: what is left for its other places -/
theorem Snd.of {e : E} (h : ∀ X W py, Cok G gi X W → mE (mxOf G gi X) e X.env.scope py = true → PE X py (tE G X W e)) (h1 : ∀ M sc ps, mA M e sc ps = false) (h2 : ∀ M sc py, mT M e sc py = false) (h3 : ∀ M sc ps, mTs M e sc ps = false)
    (h4 : ∀ M sc py, mI M e sc py = false) (h5 : ∀ M sc ps, mC M e sc ps = false)
    (h6 : ∀ X W a ops es pos, Cok G gi X W → mE (mxOf G gi X) e X.env.scope (.Compare a ops es pos) = true → PT X (.Compare a ops es pos) (tT G X W (wT G (.tst e))) := by intro X W a ops es pos C h; simp [mE] at h) : Snd G gi e where
  ex := h
  ar := fun X W ps C q => by rw [h1] at q; cases q
  av := fun X W ps pos C q => by rw [h1] at q; cases q
  ts := fun X W py C q => by rw [h2] at q; cases q
  tl := fun X W ps pos C q => by rw [h3] at q; cases q
  it := fun X W py tg C q => by rw [h4] at q; cases q
  cs := fun X ps C q => by rw [h5] at q; cases q
  ct := h6
  po := fun X W o C q => by rw [h1] at q; cases q
theorem Cok.blk {X : Cx} {W : WX} (C : Cok G gi X W) (s : Shared) (H : Hp) (sc : Scope) (ce : Env) (fp : List Addr) : Cok G gi (X.blk s H sc ce fp) W0 :=
  ⟨C.nd, C.calm, C.room, C.units, takes_none5, C.bf, C.ty, C.isi, C.rng, C.gi, C.fns⟩
theorem glx {X : Cx} {x : Str} (h : glC X.env.scope x = true) : Gl X x := (glC_ok h).1
/-- what of a comprehension holds at its block -/
theorem lc_parts {is : List Nat} {tp : Bool} {it c elt : E} (Si : Snd G gi it) (Sc : Snd G gi c) (Se : Snd G gi elt) {X : Cx} {W : WX} (C : Cok G gi X W) {tg pit pelt : Expr} {ifs : List Expr} {scope : Scope}
    (h1 : mTgt X.N scope is tp tg = true) (h2 : blkC X.N X.env.scope scope (ownOf is (tgNames tp tg)) = true) (h3 : mI (mxOf G gi X) it X.env.scope pit = true) (h4 : mC (mxOf G gi X) c (relS scope X.env.scope) ifs = true) (h5 : mE (mxOf G gi X) elt (relS scope X.env.scope) pelt = true) :
    PI X tg pit (tI G X W it) ∧ BlkOk X.N X.env.scope scope (ownOf is (tgNames tp tg)) ∧ (ownOf is (tgNames tp tg)).map (·.2) = is ∧
    (∀ (s : Shared) (H : Hp) (C : Addr) (cl : List (Str × Addr)) (fp : List Addr), PG (X.blk s H scope (compEnvC scope cl C X.env) fp) tg (gT X.K is tp)) ∧
    (∀ (s : Shared) (H : Hp) (C : Addr) (cl : List (Str × Addr)) (fp : List Addr), PTs (X.blk s H scope (compEnvC scope cl C X.env) fp) ifs (tC' G X c)) ∧
    (∀ (s : Shared) (H : Hp) (C : Addr) (cl : List (Str × Addr)) (fp : List Addr), PE (X.blk s H scope (compEnvC scope cl C X.env) fp) pelt (tE G X W0 elt)) ∧ ∀ x, foldedSetIterable pit X.env x = pure x := by
  have hmap : ∀ {is : List Nat} {es : List Expr}, mNames X.N scope is es = true → (ownOf is es).map (·.2) = is := fun {is} => by
    induction is with
    | nil => intro es h; cases es <;> rfl
    | cons i is ih =>
      intro es h
      cases es with
      | nil => simp [mNames] at h
      | cons p es =>
        cases p with
        | Name x p =>
          simp only [mNames, Bool.and_eq_true] at h
          show i :: (ownOf is es).map (·.2) = _
          rw [ih h.2]
        | _ => simp [mNames] at h
  refine ⟨Si.it X W pit tg C h3, blkOk_by h2, ?_, fun s H Ca cl fp => ?_, fun s H Ca cl fp => Sc.cs _ ifs (C.blk s H scope (compEnvC scope cl Ca X.env) fp) h4, fun s H Ca cl fp => Se.ex _ W0 pelt (C.blk s H scope (compEnvC scope cl Ca X.env) fp) h5, fun x => ?_⟩
  · simp only [mTgt, Bool.and_eq_true] at h1
    exact hmap h1.1.2
  · refine pg_T (X := X.blk s H scope (compEnvC scope cl Ca X.env) fp) (N := X.N) (sc := scope) ⟨rfl, fun x hx => ?_⟩ C.nd C.calm h1
    have keep : ∀ k, k ≠ NameKind.free → scope.names.lookup x = some k → (relS scope X.env.scope).names.lookup x = some k := fun k hk h => lookup_relS_keep hk h
    rcases locC_ok hx with z | z
    · exact ⟨.inl (keep _ (by decide) z), .inr (keep _ (by decide) z)⟩
    · refine ⟨.inr (keep _ (by decide) z), .inl ?_⟩
      show (scope.names.lookup x == some NameKind.cell) = true
      rw [z]; rfl
  · cases it with
    | rng es =>
      cases pit with
      | Call _ _ _ _ => rfl
      | _ => simp [mI] at h3
    | seq e =>
      simp only [mI, Bool.and_eq_true] at h3
      cases pit <;> first | rfl | (simp [notSet] at h3)
    | _ => simp [mI] at h3
theorem snd : ∀ e : E, Snd G gi e := by
  intro e
  induction e with
  | nil =>
    refine ⟨fun X W py C h => by simp [mE] at h, fun X W ps C h => ?_, fun X W ps pos C h hn => ?_, fun X W py C h => by simp [mT] at h, fun X W ps pos C h hn => ?_, fun X W py tg C h => by simp [mI] at h, fun X ps C h => ?_, fun X W a ops es pos C h => by simp [mE] at h, fun X W o C h => ?_⟩
    · cases ps with
      | nil => exact ⟨s_nil, s_nilP⟩
      | cons => simp [mA] at h
    · cases ps with
      | nil => exact absurd rfl hn
      | cons => simp [mA] at h
    · cases ps with
      | nil => exact absurd rfl hn
      | cons => simp [mTs] at h
    · cases ps with
      | nil =>
        refine ⟨fun pins s σ H Q I w => pts_nil.run pins s σ H Q I ?_⟩
        obtain ⟨Z, H0, io, env, Qd, Xd, hi, er, lk, ⟨_, w⟩, fin⟩ := w
        unfold wC at w
        exact fin true env H er .refl w
      | cons => simp [mC] at h
    · cases o with
      | none => exact s_onone
      | some p => simp [mA] at h
  | cons e es ihe ihs =>
    refine ⟨fun X W py C h => by simp [mE] at h, fun X W ps C h => ?_, fun X W ps pos C h hn => ?_, fun X W py C h => by simp [mT] at h, fun X W ps pos C h hn => ?_, fun X W py tg C h => by simp [mI] at h, fun X ps C h => by simp [mC] at h, fun X W a ops es pos C h => by simp [mE] at h, fun X W o C h => ?_⟩
    · cases ps with
      | nil => simp [mA] at h
      | cons p ps =>
        simp only [mA, Bool.and_eq_true] at h
        obtain ⟨a1, a2⟩ := ihs.ar X W ps C h.2
        exact ⟨s_cons (ihe.ex X W p C h.1) a1 (not_star h.1), s_consP (ihe.pk C h.1) a2 (not_star h.1)⟩
    · cases ps with
      | nil => exact absurd rfl hn
      | cons p ps =>
        simp only [mA, Bool.and_eq_true] at h
        have h1 := ihe.ex X W p C h.1
        cases ps with
        | nil =>
          cases es with
          | nil => exact ⟨s_and1 h1, s_or1 h1⟩
          | _ => simp [mA] at h
        | cons q ps =>
          obtain ⟨b1, b2⟩ := ihs.av X W (q :: ps) pos C h.2 (by simp)
          cases es with
          | cons e2 es => exact ⟨s_and2 h1 b1, s_or2 h1 b2⟩
          | _ => simp [mA] at h
    · cases ps with
      | nil => exact absurd rfl hn
      | cons p ps =>
        simp only [mTs, Bool.and_eq_true] at h
        have h1 := ihe.ts X W p C h.1
        cases ps with
        | nil =>
          cases es with
          | nil => exact ⟨s_ta1 h1, s_to1 h1⟩
          | _ => simp [mTs] at h
        | cons q ps =>
          obtain ⟨b1, b2⟩ := ihs.tl X W (q :: ps) pos C h.2 (by simp)
          cases es with
          | cons e2 es => exact ⟨s_ta2 h1 b1, s_to2 h1 b2⟩
          | _ => simp [mTs] at h
    · cases o with
      | none => simp [mA] at h
      | some p =>
        simp only [mA, Option.toList, Bool.and_eq_true] at h
        cases es with
        | nil => exact s_osome (ihe.ex X W p C h.1)
        | _ => simp [mA] at h
  | var i =>
    refine .of (fun X W py C h => ?_) (fun _ _ _ => by simp [mA]) (fun _ _ _ => by simp [mT]) (fun _ _ _ => by simp [mTs]) (fun _ _ _ => by simp [mI]) (fun _ _ _ => by simp [mC])
    cases py with
    | Name x p =>
      simp only [mE, Bool.and_eq_true, decide_eq_true_eq] at h
      exact s_var h.1 h.2
    | _ => simp [mE] at h
  | int i =>
    refine .of (fun X W py C h => ?_) (fun _ _ _ => by simp [mA]) (fun _ _ _ => by simp [mT]) (fun _ _ _ => by simp [mTs]) (fun _ _ _ => by simp [mI]) (fun _ _ _ => by simp [mC])
    cases py with
    | Constant c k p =>
      cases c with
      | int j =>
        simp only [mE, decide_eq_true_eq] at h
        subst h
        exact s_const pe_int (fun _ _ _ => by unfold wE; rfl) (fun _ => .int i) rfl
      | _ => simp [mE] at h
    | _ => simp [mE] at h
  | bl b =>
    refine .of (fun X W py C h => ?_) (fun _ _ _ => by simp [mA]) (fun _ _ _ => by simp [mT]) (fun _ _ _ => by simp [mTs]) (fun _ _ _ => by simp [mI]) (fun _ _ _ => by simp [mC])
    cases py with
    | Constant c k p =>
      cases c with
      | bool j =>
        simp only [mE, beq_iff_eq] at h
        subst h
        exact s_const pe_bl (fun _ _ _ => by unfold wE; rfl) (fun _ => .bl b) rfl
      | _ => simp [mE] at h
    | _ => simp [mE] at h
  | non =>
    refine .of (fun X W py C h => ?_) (fun _ _ _ => by simp [mA]) (fun _ _ _ => by simp [mT]) (fun _ _ _ => by simp [mTs]) (fun _ _ _ => by simp [mI]) (fun _ _ _ => by simp [mC])
    cases py with
    | Constant c k p =>
      cases c with
      | none => exact s_const pe_non (fun _ _ _ => by unfold wE; rfl) (fun _ => .non) rfl
      | _ => simp [mE] at h
    | _ => simp [mE] at h
  | str b =>
    refine .of (fun X W py C h => ?_) (fun _ _ _ => by simp [mA]) (fun _ _ _ => by simp [mT]) (fun _ _ _ => by simp [mTs]) (fun _ _ _ => by simp [mI]) (fun _ _ _ => by simp [mC])
    cases py with
    | Constant c k p =>
      cases c with
      | str j =>
        simp only [mE, decide_eq_true_eq] at h
        subst h
        exact s_const pe_str (fun _ _ _ => by unfold wE; rfl) (fun _ => .str b) rfl
      | _ => simp [mE] at h
    | _ => simp [mE] at h
  | fnv n =>
    refine .of (fun X W py C h => ?_) (fun _ _ _ => by simp [mA]) (fun _ _ _ => by simp [mT]) (fun _ _ _ => by simp [mTs]) (fun _ _ _ => by simp [mI]) (fun _ _ _ => by simp [mC])
    cases py with
    | Name x p =>
      simp only [mE, Bool.and_eq_true, decide_eq_true_eq] at h
      obtain ⟨⟨h1, h2⟩, h3⟩ := h
      subst h1
      obtain ⟨f, fd, ps, g1, _, _, _⟩ := C.fns n h3
      exact s_const (x := .ref f) (pe_glob (glx h2) g1 rfl (glC_ok h2).2) (fun _ _ _ => by unfold wE; rfl) (fun _ => .fn n g1) rfl
    | _ => simp [mE] at h
  | gint x i =>
    refine .of (fun X W py C h => ?_) (fun _ _ _ => by simp [mA]) (fun _ _ _ => by simp [mT]) (fun _ _ _ => by simp [mTs]) (fun _ _ _ => by simp [mI]) (fun _ _ _ => by simp [mC])
    cases py with
    | Name y p =>
      simp only [mE, Bool.and_eq_true, decide_eq_true_eq] at h
      obtain ⟨⟨h1, h2⟩, h3⟩ := h
      subst h1
      obtain ⟨t, ht⟩ := C.gi x i h3
      exact s_const (x := .int i) (pe_glob (glx h2) ht ⟨t, rfl⟩ (glC_ok h2).2) (fun _ _ _ => by unfold wE; rfl) (fun _ => .int i) rfl
    | _ => simp [mE] at h
  | bin o a b iha ihb =>
    refine .of (fun X W py C h => ?_) (fun _ _ _ => by simp [mA]) (fun _ _ _ => by simp [mT]) (fun _ _ _ => by simp [mTs]) (fun _ _ _ => by simp [mI]) (fun _ _ _ => by simp [mC])
    cases py with
    | BinOp pa op pb p =>
      simp only [mE, Bool.and_eq_true] at h
      obtain ⟨⟨h1, h2⟩, h3⟩ := h
      rw [opB_ok h1]
      exact s_bin (iha.pk C h2) (ihb.pk C h3)
    | _ => simp [mE] at h
  | neg a iha =>
    refine .of (fun X W py C h => ?_) (fun _ _ _ => by simp [mA]) (fun _ _ _ => by simp [mT]) (fun _ _ _ => by simp [mTs]) (fun _ _ _ => by simp [mI]) (fun _ _ _ => by simp [mC])
    cases py with
    | UnaryOp op pa p =>
      cases op with
      | USub =>
        simp only [mE] at h
        exact s_neg (iha.ex X W pa C h)
      | _ => simp [mE] at h
    | _ => simp [mE] at h
  | not a iha =>
    refine ⟨fun X W py C h => ?_, fun X W ps C h => by simp [mA] at h, fun X W ps pos C h => by simp [mA] at h, fun X W py C h => ?_, fun X W ps pos C h => by simp [mTs] at h, fun X W py tg C h => by simp [mI] at h, fun X ps C h => by simp [mC] at h, fun X W a ops es pos C h => by simp [mE] at h, fun X W o C h => by simp [mA] at h⟩
    · cases py with
      | UnaryOp op pa p =>
        cases op with
        | Not =>
          simp only [mE] at h
          exact s_not (iha.ex X W pa C h)
        | _ => simp [mE] at h
      | _ => simp [mE] at h
    · cases py with
      | UnaryOp op pa p =>
        cases op with
        | Not =>
          simp only [mT] at h
          exact s_tnot (iha.ts X W pa C h)
        | _ => simp [mT] at h
      | _ => simp [mT] at h
  | cmp o a b iha ihb =>
    refine .of (fun X W py C h => ?_) (fun _ _ _ => by simp [mA]) (fun _ _ _ => by simp [mT]) (fun _ _ _ => by simp [mTs]) (fun _ _ _ => by simp [mI]) (fun _ _ _ => by simp [mC]) (fun X W pa ops pes p C h => ?_)
    · cases py with
      | Compare pa ops pes p =>
        match ops, pes, h with
        | [op], [pb], h =>
          simp only [mE, Bool.and_eq_true] at h
          obtain ⟨⟨⟨h1, h2⟩, h3⟩, h4⟩ := h
          rw [opC_ok h1]
          exact s_cmp C.units h4 (iha.pk C h2) (ihb.pk C h3)
        | [], _, h => simp [mE] at h
        | _ :: _ :: _, _, h => simp [mE] at h
        | [_], [], h => simp [mE] at h
        | [_], _ :: _ :: _, h => simp [mE] at h
      | _ => simp [mE] at h
    · match ops, pes, h with
      | [op], [pb], h =>
        simp only [mE, Bool.and_eq_true] at h
        obtain ⟨⟨⟨h1, h2⟩, h3⟩, h4⟩ := h
        rw [opC_ok h1]
        exact s_cmpT C.units h4 (iha.pk C h2) (ihb.pk C h3)
      | [], _, h => simp [mE] at h
      | _ :: _ :: _, _, h => simp [mE] at h
      | [_], [], h => simp [mE] at h
      | [_], _ :: _ :: _, h => simp [mE] at h
  | chn o o' a b c iha ihb ihc =>
    refine .of (fun X W py C h => ?_) (fun _ _ _ => by simp [mA]) (fun _ _ _ => by simp [mT]) (fun _ _ _ => by simp [mTs]) (fun _ _ _ => by simp [mI]) (fun _ _ _ => by simp [mC]) (fun X W pa ops pes p C h => ?_)
    · cases py with
      | Compare pa ops pes p =>
        match ops, pes, h with
        | [op, op'], [pb, pc], h =>
          simp only [mE, Bool.and_eq_true] at h
          obtain ⟨⟨⟨⟨⟨⟨h1, h2⟩, h3⟩, h4⟩, h5⟩, h6⟩, h7⟩ := h
          rw [opC_ok h1, opC_ok h2]
          exact s_chn C.units (iha.ex X W pa C h3) (ihb.ex X W pb C h4) (ihc.ex X W pc C h5) h6 h7 (pe_chain (op_cmpD o C.units) (op_cmpD o' C.units) (iha.ex X W pa C h3) (ihb.ex X W pb C h4) (ihc.ex X W pc C h5) (notSet_mark h7 _))
        | [], _, h => simp [mE] at h
        | [_], _, h => simp [mE] at h
        | _ :: _ :: _ :: _, _, h => simp [mE] at h
        | [_, _], [], h => simp [mE] at h
        | [_, _], [_], h => simp [mE] at h
        | [_, _], _ :: _ :: _ :: _, h => simp [mE] at h
      | _ => simp [mE] at h
    · match ops, pes, h with
      | [op, op'], [pb, pc], h =>
        simp only [mE, Bool.and_eq_true] at h
        obtain ⟨⟨⟨⟨⟨⟨h1, h2⟩, h3⟩, h4⟩, h5⟩, h6⟩, h7⟩ := h
        rw [opC_ok h1, opC_ok h2]
        refine (pt_chain (op_cmpD o C.units) (op_cmpD o' C.units) (iha.ex X W pa C h3) (ihb.ex X W pb C h4) (ihc.ex X W pc C h5) (notSet_mark h7 _)).imp fun σ H Q w => ?_
        obtain ⟨Z, H0, io, env, Qd, Xd, hi, er, lk, w, fin⟩ := w
        unfold wT pk at w
        dsimp only at w
        unfold wE at w
        exact chn_red C.units ⟨Z, H0, io, env, _, Xd, hi, er, lk, w, fun b env2 H2 er2 m k => ⟨b, rfl, fin b env2 H2 er2 m k⟩⟩
      | [], _, h => simp [mE] at h
      | [_], _, h => simp [mE] at h
      | _ :: _ :: _ :: _, _, h => simp [mE] at h
      | [_, _], [], h => simp [mE] at h
      | [_, _], [_], h => simp [mE] at h
      | [_, _], _ :: _ :: _ :: _, h => simp [mE] at h
  | isn a iha =>
    refine .of (fun X W py C h => ?_) (fun _ _ _ => by simp [mA]) (fun _ _ _ => by simp [mT]) (fun _ _ _ => by simp [mTs]) (fun _ _ _ => by simp [mI]) (fun _ _ _ => by simp [mC]) (fun X W pa ops pes p C h => ?_)
    · cases py with
      | Compare pa ops pes p =>
        match ops, pes, h with
        | [.Is], [.Constant .none _ _], h =>
          simp only [mE] at h
          exact s_isn (iha.ex X W pa C h)
        | [], _, h => simp [mE] at h
        | _ :: _ :: _, _, h => simp [mE] at h
        | [o], [], h => cases o <;> simp [mE] at h
        | [o], _ :: _ :: _, h => cases o <;> simp [mE] at h
        | [o], [q], h =>
          unfold mE at h
          split at h
          · rename_i e1
            cases e1
            exact s_isn (iha.ex X W _ C h)
          · cases h
      | _ => simp [mE] at h
    · unfold mE at h
      split at h
      · rename_i e1
        cases e1
        exact s_isnT (iha.ex X W _ C h)
      · cases h
  | ntn a iha =>
    refine .of (fun X W py C h => ?_) (fun _ _ _ => by simp [mA]) (fun _ _ _ => by simp [mT]) (fun _ _ _ => by simp [mTs]) (fun _ _ _ => by simp [mI]) (fun _ _ _ => by simp [mC]) (fun X W pa ops pes p C h => ?_)
    · cases py with
      | Compare pa ops pes p =>
        unfold mE at h
        split at h
        · rename_i e1
          cases e1
          exact s_ntn (iha.ex X W _ C h)
        · cases h
      | _ => simp [mE] at h
    · unfold mE at h
      split at h
      · rename_i e1
        cases e1
        exact s_ntnT (iha.ex X W _ C h)
      · cases h
  | and es ihs =>
    refine ⟨fun X W py C h => ?_, fun X W ps C h => by simp [mA] at h, fun X W ps pos C h => by simp [mA] at h, fun X W py C h => ?_, fun X W ps pos C h => by simp [mTs] at h, fun X W py tg C h => by simp [mI] at h, fun X ps C h => by simp [mC] at h, fun X W a ops es pos C h => by simp [mE] at h, fun X W o C h => by simp [mA] at h⟩
    · cases py with
      | BoolOp op ps p =>
        cases op with
        | And =>
          simp only [mE, Bool.and_eq_true, Bool.not_eq_true'] at h
          exact s_ofW (ihs.av X W ps p C h.1 (by rintro rfl; simp at h)).1 (fun _ _ _ => by unfold wE; rfl) rfl
        | _ => simp [mE] at h
      | _ => simp [mE] at h
    · cases py with
      | BoolOp op ps p =>
        cases op with
        | And =>
          simp only [mT, Bool.and_eq_true, Bool.not_eq_true'] at h
          refine ((ihs.tl X W ps p C h.1 (by rintro rfl; simp at h)).1).pt.imp fun σ H Q w => ?_
          obtain ⟨Z, H0, io, env, Qd, Xd, hi, er, lk, w, fin⟩ := w
          unfold wT at w
          exact ⟨Z, H0, io, env, Qd, Xd, hi, er, lk, w, fin⟩
        | _ => simp [mT] at h
      | _ => simp [mT] at h
  | or es ihs =>
    refine ⟨fun X W py C h => ?_, fun X W ps C h => by simp [mA] at h, fun X W ps pos C h => by simp [mA] at h, fun X W py C h => ?_, fun X W ps pos C h => by simp [mTs] at h, fun X W py tg C h => by simp [mI] at h, fun X ps C h => by simp [mC] at h, fun X W a ops es pos C h => by simp [mE] at h, fun X W o C h => by simp [mA] at h⟩
    · cases py with
      | BoolOp op ps p =>
        cases op with
        | Or =>
          simp only [mE, Bool.and_eq_true, Bool.not_eq_true'] at h
          exact s_ofW (ihs.av X W ps p C h.1 (by rintro rfl; simp at h)).2 (fun _ _ _ => by unfold wE; rfl) rfl
        | _ => simp [mE] at h
      | _ => simp [mE] at h
    · cases py with
      | BoolOp op ps p =>
        cases op with
        | Or =>
          simp only [mT, Bool.and_eq_true, Bool.not_eq_true'] at h
          refine ((ihs.tl X W ps p C h.1 (by rintro rfl; simp at h)).2).pt.imp fun σ H Q w => ?_
          obtain ⟨Z, H0, io, env, Qd, Xd, hi, er, lk, w, fin⟩ := w
          unfold wT at w
          exact ⟨Z, H0, io, env, Qd, Xd, hi, er, lk, w, fin⟩
        | _ => simp [mT] at h
      | _ => simp [mT] at h
  | ite c a b ihc iha ihb =>
    refine .of (fun X W py C h => ?_) (fun _ _ _ => by simp [mA]) (fun _ _ _ => by simp [mT]) (fun _ _ _ => by simp [mTs]) (fun _ _ _ => by simp [mI]) (fun _ _ _ => by simp [mC])
    cases py with
    | IfExp pc pa pb p =>
      simp only [mE, Bool.and_eq_true] at h
      obtain ⟨⟨h1, h2⟩, h3⟩ := h
      exact s_ite (ihc.ts X W pc C h1) (iha.ex X W pa C h2) (ihb.ex X W pb C h3)
    | _ => simp [mE] at h
  | tst e ihe =>
    have tt : ∀ X W py, Cok G gi X W → tstOk py = true → mE (mxOf G gi X) e X.env.scope py = true → PT X py (tT G X W (wT G (.tst e))) := fun X W py C h1 h2 => by
      by_cases hc : ∃ a ops es pos, py = .Compare a ops es pos
      · obtain ⟨pa, ops, pes, pos, rfl⟩ := hc
        exact ihe.ct X W pa ops pes pos C h2
      · exact s_tst (ihe.pk C h2) h1 fun a ops es pos q => hc ⟨a, ops, es, pos, q⟩
    refine ⟨fun X W py C h => by simp [mE] at h, fun X W ps C h => by simp [mA] at h, fun X W ps pos C h => by simp [mA] at h, fun X W py C h => ?_, fun X W ps pos C h => by simp [mTs] at h, fun X W py tg C h => by simp [mI] at h, fun X ps C h => ?_, fun X W a ops es pos C h => by simp [mE] at h, fun X W o C h => by simp [mA] at h⟩
    · simp only [mT, Bool.and_eq_true] at h
      exact tt X W py C h.1 h.2
    · match ps, h with
      | [p], h =>
        simp only [mC, Bool.and_eq_true] at h
        refine pts_one ((tt X W0 p C h.1 h.2).imp fun σ H Q w => ?_)
        obtain ⟨Z, H0, io, env, Qd, Xd, hi, er, lk, ⟨hx, w⟩, fin⟩ := w
        unfold wC at w
        refine ⟨Z, H0, io, env, Qd, (fun _ _ => False), hi, er, (fun _ _ _ _ _ _ _ _ h => h.elim), ?_, fin⟩
        unfold wT
        exact w
      | [], h => simp [mC] at h
      | _ :: _ :: _, h => simp [mC] at h
  | tup es ihs =>
    refine .of (fun X W py C h => ?_) (fun _ _ _ => by simp [mA]) (fun _ _ _ => by simp [mT]) (fun _ _ _ => by simp [mTs]) (fun _ _ _ => by simp [mI]) (fun _ _ _ => by simp [mC])
    cases py with
    | Tuple ps k p =>
      simp only [mE, Bool.and_eq_true, decide_eq_true_eq] at h
      exact s_tup (ihs.ar X W ps C h.1).1 (by rw [(mA_len _ _ h.1).1]; exact h.2)
    | _ => simp [mE] at h
  | lst es ihs =>
    refine .of (fun X W py C h => ?_) (fun _ _ _ => by simp [mA]) (fun _ _ _ => by simp [mT]) (fun _ _ _ => by simp [mTs]) (fun _ _ _ => by simp [mI]) (fun _ _ _ => by simp [mC])
    cases py with
    | List ps p =>
      simp only [mE, Bool.and_eq_true, decide_eq_true_eq] at h
      exact s_lst (ihs.ar X W ps C h.1).1 (by rw [(mA_len _ _ h.1).1]; exact h.2)
    | _ => simp [mE] at h
  | call n es ihs =>
    refine .of (fun X W py C h => ?_) (fun _ _ _ => by simp [mA]) (fun _ _ _ => by simp [mT]) (fun _ _ _ => by simp [mTs]) (fun _ _ _ => by simp [mI]) (fun _ _ _ => by simp [mC])
    cases py with
    | Call pf ps kws p =>
      unfold mE at h
      split at h
      · rename_i e1
        cases e1
        simp only [Bool.and_eq_true, decide_eq_true_eq, Bool.not_eq_true'] at h
        obtain ⟨⟨⟨⟨h1, h2⟩, h3⟩, h4⟩, h5⟩ := h
        obtain ⟨f, fd, qs, g1, g2, F, hb⟩ := C.fns n h4
        have h1 : G.tb.fnm n = _ := h1
        subst h1
        have hln := mA_len _ _ h3
        cases ps with
        | nil =>
          cases es with
          | nil => exact s_call0 F h5 (C.room _ h4) (glx h2) g1 g2 hb C.tk (glC_ok h2).2
          | _ => simp [mA] at h3
        | cons p0 ps => exact s_call F h5 (C.room _ h4) (glx h2) g1 g2 hb C.tk (ihs.ar X W _ C h3).1 (glC_ok h2).2 (hln.2 p0 List.mem_cons_self) (back_any fun q hq => hln.2 q (List.mem_cons_of_mem _ hq))
      · cases h
    | _ => simp [mE] at h
  | cio n i es ihs =>
    refine .of (fun X W py C h => ?_) (fun _ _ _ => by simp [mA]) (fun _ _ _ => by simp [mT]) (fun _ _ _ => by simp [mTs]) (fun _ _ _ => by simp [mI]) (fun _ _ _ => by simp [mC])
    cases py with
    | Call pf ps kws p =>
      unfold mE at h
      split at h
      · rename_i e1
        cases e1
        simp only [Bool.and_eq_true, decide_eq_true_eq, Bool.not_eq_true'] at h
        obtain ⟨⟨⟨⟨⟨⟨⟨h1, h2⟩, h3⟩, h4⟩, h5⟩, h6⟩, h7⟩, h8⟩ := h
        obtain ⟨f, fd, qs, g1, g2, F, hb⟩ := C.fns n h6
        have h1 : G.tb.fnm n = _ := h1
        subst h1
        have hln := mA_len _ _ h5
        exact s_cio F h7 (C.room _ h6) (glx h2) g1 g2 hb C.tk h3 h4 (ihs.ar X W _ C h5).1 (glC_ok h2).2 (back_any hln.2) h8
      · cases h
    | _ => simp [mE] at h
  | clv i es ihs =>
    refine .of (fun X W py C h => ?_) (fun _ _ _ => by simp [mA]) (fun _ _ _ => by simp [mT]) (fun _ _ _ => by simp [mTs]) (fun _ _ _ => by simp [mI]) (fun _ _ _ => by simp [mC])
    cases py with
    | Call pf ps kws p =>
      unfold mE at h
      split at h
      · rename_i e1
        cases e1
        simp only [Bool.and_eq_true, decide_eq_true_eq, Bool.not_eq_true'] at h
        obtain ⟨⟨⟨h1, h2⟩, h3⟩, h4⟩ := h
        have hln := mA_len _ _ h3
        cases ps with
        | nil => simp at h4
        | cons p0 ps => exact s_clv C h1 h2 (ihs.ar X W _ C h3).1 (hln.2 p0 List.mem_cons_self) (back_any fun q hq => hln.2 q (List.mem_cons_of_mem _ hq))
      · cases h
    | _ => simp [mE] at h
  | blt f es ihs =>
    refine .of (fun X W py C h => ?_) (fun _ _ _ => by simp [mA]) (fun _ _ _ => by simp [mT]) (fun _ _ _ => by simp [mTs]) (fun _ _ _ => by simp [mI]) (fun _ _ _ => by simp [mC])
    cases py with
    | Call pf ps kws p =>
      unfold mE at h
      split at h
      · rename_i e1
        cases e1
        simp only [Bool.and_eq_true, decide_eq_true_eq, Bool.not_eq_true'] at h
        obtain ⟨⟨⟨h1, h2⟩, h3⟩, h4⟩ := h
        subst h1
        have hln := mA_len _ _ h3
        cases ps with
        | nil => simp at h4
        | cons p0 ps =>
          have hst := hln.2 p0 List.mem_cons_self
          have hba : (backTo p (starEach ps X.env)).any (·.1) = false := back_any fun q hq => hln.2 q (List.mem_cons_of_mem _ hq)
          refine s_blt C.calm (glx h2) (C.bf f) (ihs.ar X W _ C h3).2 hst hba fun {r t} hr ha => ?_
          have hbt := bf_boot f
          have hne := bf_ne f
          cases f with
          | int => exact pe_callTy hr (glx h2) (C.bf _) hbt ha hne.1 hne.2 (star_ok hst _ _) hba
          | str => exact pe_callTy hr (glx h2) (C.bf _) hbt ha hne.1 hne.2 (star_ok hst _ _) hba
          | tuple => exact pe_callTy hr (glx h2) (C.bf _) hbt ha hne.1 hne.2 (star_ok hst _ _) hba
          | list => exact pe_callTy hr (glx h2) (C.bf _) hbt ha hne.1 hne.2 (star_ok hst _ _) hba
          | bool => exact pe_callTy hr (glx h2) (C.bf _) hbt ha hne.1 hne.2 (star_ok hst _ _) hba
          | _ => exact pe_callB hr (glx h2) (C.bf _) hbt ha hne.1 hne.2 (star_ok hst _ _) hba
      · cases h
    | _ => simp [mE] at h
  | isi a T iha =>
    refine .of (fun X W py C h => ?_) (fun _ _ _ => by simp [mA]) (fun _ _ _ => by simp [mT]) (fun _ _ _ => by simp [mTs]) (fun _ _ _ => by simp [mI]) (fun _ _ _ => by simp [mC])
    cases py with
    | Call pf ps kws p =>
      unfold mE at h
      split at h
      · rename_i e1
        cases e1
        simp only [Bool.and_eq_true, decide_eq_true_eq] at h
        obtain ⟨⟨⟨⟨h1, h2⟩, h3⟩, h4⟩, h5⟩ := h
        subst h1 h4
        exact s_isi (glx h2) C.isi (glx h5) (C.ty T) (iha.pk C h3) (not_star h3)
      · cases h
    | _ => simp [mE] at h
  | ix a b iha ihb =>
    refine .of (fun X W py C h => ?_) (fun _ _ _ => by simp [mA]) (fun _ _ _ => by simp [mT]) (fun _ _ _ => by simp [mTs]) (fun _ _ _ => by simp [mI]) (fun _ _ _ => by simp [mC])
    cases py with
    | Subscript pa pb p =>
      simp only [mE, Bool.and_eq_true] at h
      exact s_ix (iha.pk C h.1) (ihb.ex X W pb C h.2) (plainIx h.2)
    | _ => simp [mE] at h
  | slc a lo hi iha ihl ihh =>
    refine .of (fun X W py C h => ?_) (fun _ _ _ => by simp [mA]) (fun _ _ _ => by simp [mT]) (fun _ _ _ => by simp [mTs]) (fun _ _ _ => by simp [mI]) (fun _ _ _ => by simp [mC])
    cases py with
    | Subscript pa pb p =>
      unfold mE at h
      split at h
      · rename_i e1
        cases e1
        simp only [Bool.and_eq_true] at h
        obtain ⟨⟨h1, h2⟩, h3⟩ := h
        exact s_slc (iha.pk C h1) (ihl.po X W _ C h2) (ihh.po X W _ C h3)
      · cases h
    | _ => simp [mE] at h
  | rev a iha =>
    refine .of (fun X W py C h => ?_) (fun _ _ _ => by simp [mA]) (fun _ _ _ => by simp [mT]) (fun _ _ _ => by simp [mTs]) (fun _ _ _ => by simp [mI]) (fun _ _ _ => by simp [mC])
    cases py with
    | Subscript pa pb p =>
      unfold mE at h
      split at h
      · rename_i e1
        cases e1
        exact s_rev (iha.pk C h)
      · cases h
    | _ => simp [mE] at h
  | rng es ihs =>
    refine ⟨fun X W py C h => by simp [mE] at h, fun X W ps C h => by simp [mA] at h, fun X W ps pos C h => by simp [mA] at h, fun X W py C h => by simp [mT] at h, fun X W ps pos C h => by simp [mTs] at h, fun X W py tg C h => ?_, fun X ps C h => by simp [mC] at h, fun X W a ops es pos C h => by simp [mE] at h, fun X W o C h => by simp [mA] at h⟩
    cases py with
    | Call pf ps kws p =>
      unfold mI at h
      split at h
      · rename_i e1
        cases e1
        simp only [Bool.and_eq_true, decide_eq_true_eq] at h
        obtain ⟨⟨⟨h1, h2⟩, h3⟩, h4⟩ := h
        subst h1
        have hln := mA_len _ _ h3
        have har := (ihs.ar X W _ C h3).1
        match ps, h4, hln, har with
        | [pa], _, hln, har => exact s_rng1 (glx h2) C.rng har hln.1 (hln.2 _ List.mem_cons_self)
        | [pa, pb], _, hln, har => exact s_rng2 (glx h2) C.rng har hln.1 (hln.2 _ List.mem_cons_self) (hln.2 _ (List.mem_cons_of_mem _ List.mem_cons_self))
        | [], h4, _, _ => simp at h4
        | _ :: _ :: _ :: _, h4, _, _ => simp at h4
      · cases h
    | _ => simp [mI] at h
  | lrng es ihs =>
    refine .of (fun X W py C h => ?_) (fun _ _ _ => by simp [mA]) (fun _ _ _ => by simp [mT]) (fun _ _ _ => by simp [mTs]) (fun _ _ _ => by simp [mI]) (fun _ _ _ => by simp [mC])
    cases py with
    | Call pf ps kws p =>
      unfold mE at h
      split at h
      · rename_i e1
        cases e1
        simp only [Bool.and_eq_true, decide_eq_true_eq] at h
        obtain ⟨⟨⟨⟨⟨h1, h2⟩, h3⟩, h4⟩, h5⟩, h6⟩ := h
        subst h1 h3
        rename_i pes _
        have hln := mA_len _ _ h5
        cases pes with
        | nil => simp at h6
        | cons p0 ps => exact s_lrng C.calm (glx h2) (C.bf .list) (glx h4) C.rng (ihs.ar X W _ C h5).1 (hln.2 p0 List.mem_cons_self) (back_any fun q hq => hln.2 q (List.mem_cons_of_mem _ hq))
      · cases h
    | _ => simp [mE] at h
  | seq e ihe =>
    refine ⟨fun X W py C h => by simp [mE] at h, fun X W ps C h => by simp [mA] at h, fun X W ps pos C h => by simp [mA] at h, fun X W py C h => by simp [mT] at h, fun X W ps pos C h => by simp [mTs] at h, fun X W py tg C h => ?_, fun X ps C h => by simp [mC] at h, fun X W a ops es pos C h => by simp [mE] at h, fun X W o C h => by simp [mA] at h⟩
    simp only [mI, Bool.and_eq_true] at h
    exact s_seq (ihe.ex X W py C h.2)
  | lc is tp it c elt ihi ihc ihe =>
    refine .of (fun X W py C h => ?_) (fun _ _ _ => by simp [mA]) (fun _ _ _ => by simp [mT]) (fun _ _ _ => by simp [mTs]) (fun _ _ _ => by simp [mI]) (fun _ _ _ => by simp [mC])
    cases py with
    | ListComp pelt gens scope p =>
      unfold mE at h
      split at h
      · rename_i e1
        cases e1
        simp only [Bool.and_eq_true] at h
        obtain ⟨⟨⟨⟨h1, h2⟩, h3⟩, h4⟩, h5⟩ := h
        obtain ⟨k1, k2, k3, k4, k5, k6, k7⟩ := lc_parts ihi ihc ihe C h1 h2 h3 h4 h5
        have := pe_lc (pos := p) C.calm C.nd k1 k2 k4 k5 k6 k7
        rw [k3] at this
        exact this.imp fun σ H Q w => lc_red w
      · cases h
    | _ => simp [mE] at h
  | met m o es iho ihs =>
    refine .of (fun X W py C h => ?_) (fun _ _ _ => by simp [mA]) (fun _ _ _ => by simp [mT]) (fun _ _ _ => by simp [mTs]) (fun _ _ _ => by simp [mI]) (fun _ _ _ => by simp [mC])
    simp [mE] at h
end
end Pd

/-! Statements: that a Python statement is said by the short one; readings; soundness. -/
namespace Pd
open L2 PyProof.Rows PySem.Spec PySem

def notComp : Expr → Bool
  | .ListComp .. => false
  | .SetComp .. => false
  | .DictComp .. => false
  | _ => true
def notTup : Expr → Bool
  | .Tuple .. => false
  | _ => true
def isCellC (sc : Scope) (x : Str) : Bool := match sc.names.lookup x with
  | some .cell => true
  | _ => false
def isLocC (sc : Scope) (x : Str) : Bool := match sc.names.lookup x with
  | some .local => true
  | _ => false
def lcFree (y : Str) (pl : Pos) : Expr → Bool
  | .ListComp _ _ scope p => (pl.line == p.line) && !(scope.names.any fun (n, k) => n == y && (k == .local || k == .cell))
  | _ => false
/-- in a function's scope -/
def funC (sc : Scope) : Bool := match sc.kind with
  | .function => true
  | _ => false
def ekName : EK → Str
  | .mal => "Malformed"
  | .ref => "Refused"
  | .nt => "NoText"
def ekField : EK → Str
  | .mal => ""
  | .ref => "reason"
  | .nt => "at"
def starC : Expr → Bool
  | .Starred .. => true
  | _ => false
def slotName (sc : Scope) (line : Nat) : Expr → Option Str
  | .Name id pos => if sc.names.lookup id == some .local && pos.line == line then some id else none
  | _ => none
def headLine (ts : List Expr) : Nat := (ts.head?.map (·.pos.line)).getD 0
/-- what the machine says of several names stored at once; none: it does not say -/
def swapC (sc : Scope) (ts vs : List Expr) : Option (Option (List Str)) :=
  if (!(ts.length == 2 || ts.length == 3) || vs.length != ts.length) = true then some none else
  if vs.any starC = true then none else
  if ((ts.filterMap (slotName sc (headLine ts))).length != ts.length || (ts.filterMap (slotName sc (headLine ts))).eraseDups.length != (ts.filterMap (slotName sc (headLine ts))).length) = true then some none else
  if vs.all (foldedForSure 8) = true then some none else
  if vs.all (constantsAlone 8) = true then none else some (some (ts.filterMap (slotName sc (headLine ts))))
/-- how several names are stored -/
def mPar (sc : Scope) (ts vs : List Expr) : Bool := (match sc.kind with
  | .function => true
  | _ => false) && (match swapC sc ts vs with
  | some none => true
  | some (some _) => ts.all fun t => match t with
    | .Name x _ => isLocC sc x
    | _ => false
  | none => false)
/-- an except clause's suite: what it hands back -/
def mHr (M : Mx) (k : EK) (sl : Option Nat) (e : E) (sc : Scope) (nm : Option Str) (pes : List Expr) : Bool := match sl, e, nm, pes with
  | none, .tup (.cons (.str a) (.cons .non .nil)), none, [.Constant (.str b) _ _, .Constant .none _ _] => decide (a = b)
  | none, .tup (.cons (.str a) (.cons (.str c) .nil)), none, [.Constant (.str b) _ _, .Constant (.str d) _ _] => decide (a = b) && decide (c = d)
  | some i, .tup (.cons (.str a) .nil), some n, [.Constant (.str b) _ _, .Attribute (.Name m _) f _] => decide (a = b) && decide (M.N[i]? = some n) && decide (m = n) && isLocC sc n && visC sc n && decide (f = ekField k) && decide (k ≠ .mal)
  | _, _, _, _ => false
def mH (M : Mx) : S → Scope → List ExceptHandler → Bool
  | .nil, _, hs => hs.isEmpty
  | .hnd k sl e r, sc, hs => match hs with
    | .ExceptHandler (some (.Name x _)) nm [.Return (some (.Tuple pes _ _)) _] _ :: hs => decide (x = ekName k) && glC sc x && M.tb.ek k && mHr M k sl e sc nm pes && mH M r sc hs
    | _ => false
  | _, _, _ => false
termination_by structural s => s
mutual
def mS (M : Mx) : S → Scope → Stmt → Bool
  | .expr e, sc, st => match st with
    | .Expr v _ => notComp v && mE M e sc v
    | _ => false
  | .asg i e, sc, st => match st with
    | .Assign [.Name x _] v _ => decide (M.N[i]? = some x) && locC sc x && mE M e sc v && (notComp v || isCellC sc x)
    | _ => false
  | .asgl i e, sc, st => match st with
    | .Assign [.Name x p] v _ => decide (M.N[i]? = some x) && isLocC sc x && mE M e sc v && lcFree x p v && funC sc
    | _ => false
  | .unp is e, sc, st => match st with
    | .Assign [.Tuple ts _ _] v _ => mNames M.N sc is ts && notTup v && mE M e sc v
    | _ => false
  | .par is es, sc, st => match st with
    | .Assign [.Tuple ts _ _] (.Tuple vs _ _) _ => mNames M.N sc is ts && mA M es sc vs && decide (vs.length ≤ 1000) && decide (ts.length = vs.length) && decide is.Nodup && mPar sc ts vs
    | _ => false
  | .tr b hs, sc, st => match st with
    | .Try body (h :: hs') [] [] _ => mB M b sc body && mH M hs sc (h :: hs')
    | _ => false
  | .app i e, sc, st => match st with
    | .Expr (.Call (.Attribute (.Name x _) m ap) [v] [] cp) _ => decide (M.N[i]? = some x) && visC sc x && decide (m = ("append" : Str)) && mE M e sc v && (ap.endLine == cp.line)
    | _ => false
  | .seti i a e, sc, st => match st with
    | .Assign [.Subscript (.Name x _) k _] v _ => decide (M.N[i]? = some x) && visC sc x && mE M a sc k && mE M e sc v
    | _ => false
  | .ret e, sc, st => match st with
    | .Return (some v) _ => mE M e sc v
    | _ => false
  | .retn, _, st => match st with
    | .Return none _ => true
    | _ => false
  | .ife c a b, sc, st => match st with
    | .If t x y _ => mT M c sc t && mB M a sc x && mB M b sc y
    | _ => false
  | .whl c b, sc, st => match st with
    | .While t x [] _ => mT M c sc t && mB M b sc x
    | _ => false
  | .for_ is tp it b, sc, st => match st with
    | .For tg i x [] _ => mTgt M.N sc is tp tg && mI M it sc i && mB M b sc x
    | _ => false
  | .brk, _, st => match st with
    | .Break _ => true
    | _ => false
  | .cnt, _, st => match st with
    | .Continue _ => true
    | _ => false
  | .rmal m, sc, st => match st with
    | .Raise (some (.Call (.Name x _) [.Constant (.str t) _ _] [] _)) none _ => decide (x = ("Malformed" : Str)) && glC sc x && decide (m = t) && M.tb.ek .mal
    | _ => false
  | _, _, _ => false
termination_by structural s => s
def mB (M : Mx) : S → Scope → List Stmt → Bool
  | .nil, _, sts => sts.isEmpty
  | .seq s r, sc, sts => match sts with
    | st :: sts => mS M s sc st && mB M r sc sts
    | [] => false
  | _, _, _ => false
termination_by structural s => s
end
end Pd

/-! Soundness of statements. -/
namespace Pd
open L2 PyProof.Rows PySem.Spec PySem
section
variable {R : RC} {Z : Addr → Prop} {H0 H H' : Hp} {io : Option (Nat × Addr)} {σ : Sg} {env env' : Loca}
/-- knowledge given up -/
theorem ER.weak (r : ER R Z H0 io σ H env) (w : Weak (io.map (·.1)) env env') : ER R Z H0 io σ H env' ∧ Mono σ H env σ H env' := by
  obtain ⟨wl, wc⟩ := w
  have oldc : ∀ {i : Nat} {c' : Cl}, env'[i]? = some c' → ∃ c, env[i]? = some c ∧ WkC c c' ∧ (io.map (·.1) = some i → c = c') := fun {i c'} h => by
    have hi : i < env.length := by
      have := (List.getElem?_eq_some_iff.mp h).1
      omega
    have hc := List.getElem?_eq_getElem hi
    obtain ⟨a, b⟩ := wc i _ _ hc h
    exact ⟨_, hc, a, b⟩
  have ow : ∀ {i : Nat} {d : D}, env'[i]? = some (.own d) → env[i]? = some (.own d) := fun {i d} h => by
    obtain ⟨c, hc, k, _⟩ := oldc h
    cases k
    exact hc
  have owm : ∀ b, Own σ env' b → Own σ env b := fun b ⟨i, d, h1, h2⟩ => ⟨i, d, ow h1, h2⟩
  have m : Mono σ H env σ H env' := ⟨fun _ _ h _ => h, fun b h => .inl (owm b h), fun _ o h => ⟨o, h⟩⟩
  refine ⟨⟨r.len.trans wl.symm, fun i d h => ?_, fun i d h => ?_, fun i j d e a h1 h2 => r.inj i j d e a (ow h1) (ow h2), r.old, fun a h => r.new a (owm a h), r.zok, fun a h => r.zown a (owm a h), fun p a h => ?_⟩, m⟩
  · obtain ⟨c, hc, k, hio⟩ := oldc h
    cases k with
    | refl =>
      obtain ⟨v, s, q⟩ := r.cell i d hc
      exact ⟨v, s, q.mono m.see⟩
    | rel =>
      obtain ⟨a, s, q⟩ := r.own i d hc
      refine ⟨.ref a, s, ?_⟩
      have nz : ¬ Z a := fun z => by
        obtain ⟨p, e⟩ := r.zown a ⟨i, d, hc, s⟩ z
        obtain ⟨s2, f, h2⟩ := r.ios p a e
        have := r.inj i p d f a hc h2 s s2
        subst this
        have := hio (by rw [e]; rfl)
        cases this
      have no : ¬ Own σ env' a := fun ⟨j, e, h1, h2⟩ => by
        have := r.inj i j d e a hc (ow h1) s h2
        subst this
        rw [h] at h1; cases h1
      cases q with
      | lst h1 t => exact .lst (hid_of nz no h1) (t.mono m.see)
      | dk h1 t => exact .dk (hid_of nz no h1) (t.mono m.see)
  · obtain ⟨a, s, q⟩ := r.own i d (ow h)
    exact ⟨a, s, q.mono rfl m.see⟩
  · obtain ⟨s, d, hd⟩ := r.ios p a h
    refine ⟨s, d, ?_⟩
    have hi : p < env'.length := by
      have := (List.getElem?_eq_some_iff.mp hd).1
      omega
    have hc := List.getElem?_eq_getElem hi
    obtain ⟨c, h1, _, h3⟩ := oldc hc
    rw [hd] at h1
    cases h1
    rw [hc, ← h3 (by rw [h]; rfl)]
end

/-- what is known where a statement stands -/
structure Sok (G : Gx) (gi : Str → Option Int) (X : Cx) (W : WX) : Prop extends Cok G gi X W where
  po : PassesOwn (model X.prog X.w) X.A X.env X.xe
  fnt : ∀ x, X.fn x = true
  hs : X.stack = X.env :: X.outer
  hf : X.env.frame = some X.env.locals
  mal : G.tb.ek .mal = true → ∃ C, X.mg "Malformed" = some (.ref C) ∧ PySem.W.excIn X.K C [.type "ValueError", .type "Exception", .type "BaseException", .type "object"] "ValueError.__new__" = true ∧ PySem.W.keepIn X.K (.ref C) = true ∧
    PySem.W.subIn X.K (.ref C) (.type "BaseException") = some true ∧ PySem.W.typeIn X.K (.ref C) = some (.type "type")
  ekc : ∀ k, G.tb.ek k = true → ∃ C, X.mg (ekName k) = some (.ref C) ∧ (k ≠ .mal → XfC X.K C ∧ PySem.W.findIn X.K (.ref C) (ekField k) = some none)
  ekx : ∀ k k' C C', G.tb.ek k' = true → X.mg (ekName k) = some C → X.mg (ekName k') = some C' → PySem.W.exmOne X.K C C' = some (decide (k = k'))

/-- a value handed back: the datum, and whether the list is a new one -/
def RtR (R : RC) (Z : Addr → Prop) (H0 H : Hp) (v : V) (d : D) (fr : Bool) : Prop :=
  Rep R (hz Z H) v d ∧ (fr = true → isMut d = true → ∃ p, v = .ref p ∧ H0 p = none ∧ (∃ o, H p = some o) ∧ RepO R H (hz (zx Z p) H) p d)
/-- what stands behind a statement, told to the machine's side -/
structure Lks (R : RC) (Z : Addr → Prop) (H0 : Hp) (io : Option (Nat × Addr)) (W : WX) (σ : Sg) (H : Hp) (env : Loca) (P : Po) (D : Ends) : Prop where
  nx : ∀ σ' H' env', ER R Z H0 io σ' H' env' → Mono σ H env σ' H' env' → P.nx env' → D.nx σ' H'
  bk : ∀ σ' H' env', ER R Z H0 io σ' H' env' → Mono σ H env σ' H' env' → P.bk env' → D.bk σ' H'
  ct : ∀ σ' H' env', ER R Z H0 io σ' H' env' → Mono σ H env σ' H' env' → P.ct env' → D.ct σ' H'
  rt : ∀ σ' H' env' v d fr, ER R Z H0 io σ' H' env' → Mono σ H env σ' H' env' → RtR R Z H0 H' v d fr → P.rt d fr env' → D.rt v H'
  ex : ∀ x σ' H' env' c dd, ER R Z H0 io σ' H' env' → Mono σ H env σ' H' env' → XRep R.mg H' c dd x → P.ex x env' → W c dd σ' H'
section
variable {R : RC} {Z : Addr → Prop} {H0 H H' : Hp} {io : Option (Nat × Addr)} {W : WX} {σ σ' : Sg} {env env' : Loca} {P : Po} {D : Ends}
theorem Lks.step (l : Lks R Z H0 io W σ H env P D) (m : Mono σ H env σ' H' env') : Lks R Z H0 io W σ' H' env' P D :=
  ⟨fun s h e r n => l.nx s h e r (m.trans n), fun s h e r n => l.bk s h e r (m.trans n), fun s h e r n => l.ct s h e r (m.trans n), fun s h e v d f r n => l.rt s h e v d f r (m.trans n), fun x s h e c dd r n => l.ex x s h e c dd r (m.trans n)⟩
theorem Lks.lk (l : Lks R Z H0 io W σ H env P D) : Lk R Z H0 io W σ H env P.ex := fun x env' c dd H' r m h k => l.ex x σ H' env' c dd r m h k
end
def tS (G : Gx) (X : Cx) (W : WX) (s : S) : TS := fun D σ H => ∃ (Z : Addr → Prop) (H0 : Hp) (io : Option (Nat × Addr)) (env : Loca) (P : Po),
  G.iop = io.map (·.1) ∧ ER (rcOf G X) Z H0 io σ H env ∧ wS G s env P ∧ Lks (rcOf G X) Z H0 io W σ H env P D
section
variable {G : Gx} {gi : Str → Option Int} {X : Cx} {W : WX}
theorem ne_io {io : Option (Nat × Addr)} (hi : G.iop = io.map (·.1)) {i : Nat} (h : G.iop ≠ some i) : ∀ a, io ≠ some (i, a) := fun a q => h (by rw [hi, q]; rfl)
theorem swap_no {v : Expr} (h : notComp v = true) (t : Option Expr) (l : Nat) (env : Env) : swapsWith v t l env = pure false := by
  cases v <;> first | rfl | (simp [notComp] at h)
theorem swap_other {v : Expr} {t : Expr} (h : ∀ x p, t ≠ .Name x p) (l : Nat) (env : Env) : swapsWith v (some t) l env = pure false := by
  cases v <;> first | rfl | (cases t <;> first | rfl | exact absurd rfl (h _ _))
theorem swap_cell {v : Expr} {x : Str} {p : Pos} {l : Nat} {env : Env} (hk : isCellC env.scope x = true) : swapsWith v (some (.Name x p)) l env = pure false := by
  have k : env.kindOf x = some .cell := by
    unfold isCellC at hk
    split at hk
    · assumption
    · cases hk
  cases v <;> first | rfl | (unfold swapsWith; simp only [k]; rw [show (some NameKind.cell == some NameKind.local) = false by decide, Bool.and_false]; rfl)
theorem s_nilS : PSs X [] (tS G X W .nil) := by
  refine pss_nil.imp ?_
  rintro D σ H ⟨Z, H0, io, env, P, hi, er, w, l⟩
  exact l.nx σ H env er .refl w
theorem s_seqS {s r : S} {st : Stmt} {sts : List Stmt} (h1 : PS X st (tS G X W s)) (h2 : PSs X sts (tS G X W r)) : PSs X (st :: sts) (tS G X W (.seq s r)) := by
  refine (pss_cons h1 h2).imp ?_
  rintro D σ H ⟨Z, H0, io, env, P, hi, er, w, l⟩
  unfold wS at w
  exact ⟨Z, H0, io, env, _, hi, er, w, ⟨fun σ' H' env' r m k => ⟨Z, H0, io, env', P, hi, r, k, l.step m⟩, l.bk, l.ct, l.rt, l.ex⟩⟩
theorem s_expr {e : E} {v : Expr} {pos : Pos} (h : PE X v (tE G X W e)) (hc : notComp v = true) : PS X (.Expr v pos) (tS G X W (.expr e)) := by
  refine (ps_expr h (swap_no hc _ _ _)).imp ?_
  rintro D σ H ⟨Z, H0, io, env, P, hi, er, w, l⟩
  unfold wS at w
  exact ⟨Z, H0, io, env, _, _, hi, er, l.lk, w, fun d env' v H' r m _ _ k => l.nx σ H' env' r m k⟩
/-- a local is stored -/
theorem put_cell {R : RC} {Z : Addr → Prop} {H0 H H' : Hp} {io : Option (Nat × Addr)} {σ : Sg} {env env' : Loca} {e : E} {d : D} {v : V} {i : Nat} (r : ER R Z H0 io σ H' env') (m : Mono σ H env σ H' env') (q : Rep R (hid Z σ env' H') v d)
    (f : frE G.tb e = true → isMut d = true → ∃ p, v = .ref p ∧ Fri R Z H0 io H σ H' env' p d) (ni : ∀ a, io ≠ some (i, a)) :
    ER R Z H0 io (σ.set i (some v)) H' (put env' i (cellOf G.tb e d)) ∧ Mono σ H env (σ.set i (some v)) H' (put env' i (cellOf G.tb e d)) := by
  unfold cellOf
  by_cases hb : (frE G.tb e && isMut d) = true
  · rw [if_pos hb]
    simp only [Bool.and_eq_true] at hb
    obtain ⟨p, rfl, fi⟩ := f hb.1 hb.2
    exact ⟨fi.er.putHid fi.nz fi.h0 fi.nio ni fi.cont, m.putHid fi.hs⟩
  · rw [if_neg hb]
    obtain ⟨r1, m1⟩ := r.put q ni
    exact ⟨r1, m.trans m1⟩
theorem asg_red {te : TE} {i : Nat} {e : E} {D : Ends} {σ : Sg} {H : Hp} (ht : ∀ Q, tE G X W e σ H Q → te σ H Q) (h : tS G X W (.asg i e) D σ H) : tAsg te (gName i) D σ H := by
  obtain ⟨Z, H0, io, env, P, hi, er, w, l⟩ := h
  unfold wS at w
  refine ht _ ⟨Z, H0, io, env, _, _, hi, er, l.lk, w, fun d env' v H' r m q f k => ?_⟩
  obtain ⟨h1, k⟩ := k
  obtain ⟨r1, m1⟩ := put_cell (G := G) r m q f (ne_io hi h1)
  exact l.nx _ H' _ r1 m1 k
theorem s_asg {i : Nat} {e : E} {x : Str} {v : Expr} {p pos : Pos} (S : Sok G gi X W) (hN : X.N[i]? = some x) (hx : locC X.env.scope x = true) (h : PE X v (tE G X W e)) (hc : notComp v = true ∨ isCellC X.env.scope x = true) : PS X (.Assign [.Name x p] v pos) (tS G X W (.asg i e)) :=
  (ps_set S.nd hN (locC_ok hx) h (hc.elim (fun h => swap_no h _ _ _) fun h => swap_cell h) (.inl (S.fnt x))).imp fun D σ H w => asg_red (fun _ h => h) w
theorem s_unp {is : List Nat} {e : E} {ts : List Expr} {k : Nat} {v : Expr} {p pos : Pos} (S : Sok G gi X W) (hm : mNames X.N X.env.scope is ts = true) (ht : notTup v = true) (h : PE X v (tE G X W e)) : PS X (.Assign [.Tuple ts k p] v pos) (tS G X W (.unp is e)) := by
  have St : Stor X X.N X.env.scope := ⟨rfl, fun x hx => ⟨locC_ok hx, .inl (S.fnt x)⟩⟩
  obtain ⟨g, g1, g2⟩ := pgs_names St S.nd hm
  refine (ps_asg h (pg_tup S.calm g g1 g2) (swap_other (t := .Tuple ts k p) (by intro x q z; cases z) pos.line X.env) (by cases v <;> first | rfl | (simp [notTup] at ht)) rfl).imp ?_
  rintro D σ H ⟨Z, H0, io, env, P, hi, er, w, l⟩
  unfold wS at w
  refine ⟨Z, H0, io, env, _, _, hi, er, l.lk, w, fun d env' v H' r m q f k => ?_⟩
  obtain ⟨h1, ds, rfl, hl, k⟩ := k
  cases q with
  | tup hs hr =>
    obtain ⟨r1, m1⟩ := r.putAll hr fun i h => ne_io hi (h1 i h)
    have hl' := hr.length.trans hl
    exact ⟨_, _, rfl, sqT_mono hid_le hs, hl', hl', l.nx _ H' _ r1 (m.trans m1) k⟩
theorem see_base {Z : Addr → Prop} {σ : Sg} {env : Loca} {H : Hp} : Same (hid Z σ env H) (hz Z H) := fun b o q => by
  obtain ⟨a1, _, a3⟩ := hid_some q
  unfold hz
  rw [if_neg a1]
  exact a3
theorem rt_fri {R : RC} {Z : Addr → Prop} {H0 Hs H : Hp} {io : Option (Nat × Addr)} {σ : Sg} {env : Loca} {p : Addr} {d : D} (f : Fri R Z H0 io Hs σ H env p d) : ∃ q, V.ref p = .ref q ∧ H0 q = none ∧ (∃ o, H q = some o) ∧ RepO R H (hz (zx Z q) H) q d :=
  ⟨p, rfl, f.h0, f.cont.some, f.cont.mono rfl see_base⟩
theorem s_ret {e : E} {v : Expr} {pos : Pos} (h : PE X v (tE G X W e)) (hv : ∀ i, e = .var i → ∃ x p, v = .Name x p ∧ X.N[i]? = some x ∧ visC X.env.scope x = true) : PS X (.Return (some v) pos) (tS G X W (.ret e)) := by
  have gen : (∀ env P, wRet G e env P = wE G e env (fun d env1 => P.rt d (frE G.tb e) env1) P.ex) → PS X (.Return (some v) pos) (tS G X W (.ret e)) := fun hw => by
    refine (ps_ret h).imp ?_
    rintro D σ H ⟨Z, H0, io, env, P, hi, er, w, l⟩
    unfold wS at w
    rw [hw] at w
    refine ⟨Z, H0, io, env, _, _, hi, er, l.lk, w, fun d env' v H' r m q f k => l.rt σ H' env' v d _ r m ⟨q.mono see_base, fun h1 h2 => ?_⟩ k⟩
    obtain ⟨p, rfl, fi⟩ := f h1 h2
    exact rt_fri fi
  cases e with
  | var i =>
    obtain ⟨x, p, rfl, hN, hx⟩ := hv i rfl
    obtain ⟨h1, h2, h3⟩ := visC_ok hx
    refine (ps_ret (pe_var hN h1 h2 h3)).imp ?_
    rintro D σ H ⟨Z, H0, io, env, P, hi, er, w, l⟩
    unfold wS wRet at w
    dsimp only at w
    cases hc : at_ env i with
    | emp => rw [hc] at w; exact w.elim
    | val d =>
      rw [hc] at w
      obtain ⟨u, e1, q⟩ := er.cell i d (at_some hc (by intro z; cases z))
      exact ⟨u, e1, l.rt σ H env u d false er .refl ⟨q.mono see_base, fun h => by cases h⟩ w⟩
    | own d =>
      rw [hc] at w
      obtain ⟨hne, w⟩ := w
      have hcell := at_some hc (by intro z; cases z)
      obtain ⟨a, e1, ro⟩ := er.own i d hcell
      obtain ⟨_, _, a', e2, q⟩ := er.release hcell (ne_io hi hne)
      rw [e1] at e2; cases e2
      refine ⟨.ref a, e1, l.rt σ H env (.ref a) d true er .refl ⟨q.mono see_base, fun _ _ => ⟨a, rfl, ?_, ro.some, ro.mono rfl fun b o hb => ?_⟩⟩ w⟩
      · rcases er.new a ⟨i, d, hcell, e1⟩ with z | ⟨p, z⟩
        · exact z
        · obtain ⟨s2, f, h2⟩ := er.ios p a z
          have := er.inj i p d f a hcell h2 e1 s2
          subst this
          exact absurd z (ne_io hi hne a)
      · obtain ⟨a1, a2, a3⟩ := hid_some hb
        unfold hz
        rw [if_neg]
        · exact a3
        · rintro (z | rfl)
          · exact a1 z
          · exact a2 ⟨i, d, hcell, e1⟩
  | _ => exact gen fun _ _ => rfl
theorem s_retn {pos : Pos} : PS X (.Return none pos) (tS G X W .retn) := by
  refine ps_retN.imp ?_
  rintro D σ H ⟨Z, H0, io, env, P, hi, er, w, l⟩
  exact l.rt σ H env .non .non false er .refl ⟨.non, fun h => by cases h⟩ w
theorem s_ife {c : E} {a b : S} {t : Expr} {x y : List Stmt} {pos : Pos} (hc : PT X t (tT G X W (wT G c))) (ha : PSs X x (tS G X W a)) (hb : PSs X y (tS G X W b)) : PS X (.If t x y pos) (tS G X W (.ife c a b)) := by
  refine (ps_if hc ha hb).imp ?_
  rintro D σ H ⟨Z, H0, io, env, P, hi, er, w, l⟩
  unfold wS at w
  refine ⟨Z, H0, io, env, _, _, hi, er, l.lk, w, fun r env1 H1 er1 m1 w1 => ?_⟩
  cases r with
  | true =>
    rw [if_pos rfl] at w1 ⊢
    exact ⟨Z, H0, io, env1, P, hi, er1, w1, l.step m1⟩
  | false =>
    rw [if_neg Bool.false_ne_true] at w1 ⊢
    exact ⟨Z, H0, io, env1, P, hi, er1, w1, l.step m1⟩
theorem s_whl {c : E} {b : S} {t : Expr} {x : List Stmt} {pos : Pos} (S : Sok G gi X W) (hc : PT X t (tT G X W (wT G c))) (hb : PSs X x (tS G X W b)) : PS X (.While t x [] pos) (tS G X W (.whl c b)) := by
  refine (ps_while S.po hc hb).imp ?_
  rintro D σ H ⟨Z, H0, io, env, P, hi, er, w, l⟩
  unfold wS at w
  obtain ⟨I, ⟨n0, e0, wk0, i0⟩, turn⟩ := w
  obtain ⟨er0, m0⟩ := er.weak (by rw [← hi]; exact wk0)
  refine ⟨fun n σ' H' => ∃ envt, ER (rcOf G X) Z H0 io σ' H' envt ∧ Mono σ H env σ' H' envt ∧ I n envt, ⟨n0, e0, er0, m0, i0⟩, ?_⟩
  rintro n σ1 H1 ⟨env1, er1, m1, i1⟩
  refine ⟨Z, H0, io, env1, _, _, hi, er1, (l.step m1).lk, turn n env1 i1, fun r env2 H2 er2 m2 w2 => ?_⟩
  have m12 := m1.trans m2
  cases r with
  | true =>
    rw [if_pos rfl] at w2
    refine L2.iteT ⟨fun σ' H' => ∃ envt k, k < n ∧ ER (rcOf G X) Z H0 io σ' H' envt ∧ Mono σ H env σ' H' envt ∧ I k envt, fun σ' H' ⟨e, k, hk, a1, a2, a3⟩ => ⟨k, hk, e, a1, a2, a3⟩, Z, H0, io, env2, _, hi, er2, w2, ?_⟩
    have next : ∀ σ' H' env', ER (rcOf G X) Z H0 io σ' H' env' → Mono σ1 H2 env2 σ' H' env' → (∃ env'' m, Weak G.iop env' env'' ∧ m < n ∧ I m env'') → ∃ envt k, k < n ∧ ER (rcOf G X) Z H0 io σ' H' envt ∧ Mono σ H env σ' H' envt ∧ I k envt := fun σ' H' env' r mm ⟨e, k, wk, hk, ik⟩ => by
      obtain ⟨r2, m2⟩ := r.weak (by rw [← hi]; exact wk)
      exact ⟨e, k, hk, r2, (m12.trans mm).trans m2, ik⟩
    exact ⟨next, fun s h e r mm k => l.nx s h e r (m12.trans mm) k, next, (l.step m12).rt, (l.step m12).ex⟩
  | false =>
    rw [if_neg Bool.false_ne_true] at w2
    exact L2.iteF <| l.nx σ1 H2 env2 er2 m12 w2
theorem s_for {is : List Nat} {tp : Bool} {it : E} {b : S} {tg i : Expr} {x : List Stmt} {pos : Pos} (S : Sok G gi X W) (ht : mTgt X.N X.env.scope is tp tg = true) (hi' : PI X tg i (tI G X W it)) (hfo : ∀ v, foldedSetIterable i X.env v = pure v) (hb : PSs X x (tS G X W b)) :
    PS X (.For tg i x [] pos) (tS G X W (.for_ is tp it b)) := by
  have St : Stor X X.N X.env.scope := ⟨rfl, fun x hx => ⟨locC_ok hx, .inl (S.fnt x)⟩⟩
  refine (ps_for S.po S.calm hi' (pg_T St S.nd S.calm ht) hb hfo).imp ?_
  rintro D σ H ⟨Z, H0, io, env, P, hi, er, w, l⟩
  unfold wS at w
  refine ⟨Z, H0, io, env, _, _, hi, er, l.lk, w, fun ds env1 H1 J er1 m1 jok w1 => ?_⟩
  obtain ⟨hno, w1⟩ := w1
  have nio : ∀ i ∈ is, ∀ a, io ≠ some (i, a) := fun i h => ne_io hi (hno i h)
  refine ⟨fun i m σ' H' => ∃ envt, m = ds.length - i ∧ i ≤ ds.length ∧ ER (rcOf G X) Z H0 io σ' H' envt ∧ Mono σ H1 env1 σ' H' envt ∧ forLoop G.iop (fun d env2 P' => wTgt is tp d env2 fun env3 => wS G b env3 P') (ds.drop i) envt P, ⟨ds.length, env1, by omega, by omega, er1, .refl, w1⟩, ?_⟩
  rintro i m σ2 H2 ⟨env2, rfl, hil, er2, m2, w2⟩
  obtain ⟨jgo, jstop⟩ := jok Z H0 io σ2 H2 env2 er2 m2.see
  by_cases hlt : i < ds.length
  · right
    have hd : ds[i]? = some ds[i] := List.getElem?_eq_getElem hlt
    obtain ⟨go, yl⟩ := jgo i _ hd
    rw [List.drop_eq_getElem_cons hlt, forLoop] at w2
    refine ⟨go, fun σ' H' => ∃ envt, ER (rcOf G X) Z H0 io σ' H' envt ∧ Mono σ H1 env1 σ' H' envt ∧ forLoop G.iop (fun d env2 P' => wTgt is tp d env2 fun env3 => wS G b env3 P') (ds.drop (i + 1)) envt P, fun σ' H' ⟨e, a1, a2, a3⟩ => ⟨ds.length - (i + 1), by omega, e, rfl, by omega, a1, a2, a3⟩, fun v H3 y => ?_⟩
    obtain ⟨s3, rx⟩ := yl v H3 y
    have er3 := er2.grow s3
    have m3 := m2.trans (mono_grow (σ := σ2) (env := env2) s3)
    refine of_tgt (R := rcOf G X) er3 rx nio w2 fun σ4 env4 er4 m4 _ w4 => ?_
    have m14 := m3.trans m4
    refine ⟨Z, H0, io, env4, _, hi, er4, w4, ?_⟩
    have next : ∀ σ' H' env', ER (rcOf G X) Z H0 io σ' H' env' → Mono σ4 H3 env4 σ' H' env' → (∃ env'', Weak G.iop env' env'' ∧ forLoop G.iop (fun d env2 P' => wTgt is tp d env2 fun env3 => wS G b env3 P') (ds.drop (i + 1)) env'' P) →
        ∃ envt, ER (rcOf G X) Z H0 io σ' H' envt ∧ Mono σ H1 env1 σ' H' envt ∧ forLoop G.iop (fun d env2 P' => wTgt is tp d env2 fun env3 => wS G b env3 P') (ds.drop (i + 1)) envt P := fun σ' H' env' r mm ⟨e, wk, ik⟩ => by
      obtain ⟨r2, m2⟩ := r.weak (by rw [← hi]; exact wk)
      exact ⟨e, r2, (m14.trans mm).trans m2, ik⟩
    have lm := l.step (m1.trans m14)
    exact ⟨next, lm.nx, next, lm.rt, lm.ex⟩
  · left
    have ei : i = ds.length := by omega
    subst ei
    rw [List.drop_length, forLoop] at w2
    exact ⟨jstop _ (Nat.le_refl _), l.nx σ2 H2 env2 er2 (m1.trans m2) w2⟩
theorem s_brk {pos : Pos} : PS X (.Break pos) (tS G X W .brk) := by
  refine ps_break.imp ?_
  rintro D σ H ⟨Z, H0, io, env, P, hi, er, w, l⟩
  exact l.bk σ H env er .refl w
theorem s_cnt {pos : Pos} : PS X (.Continue pos) (tS G X W .cnt) := by
  refine ps_continue.imp ?_
  rintro D σ H ⟨Z, H0, io, env, P, hi, er, w, l⟩
  exact l.ct σ H env er .refl w
theorem s_rmal {m t : Str} {j : Nat} {p p2 p3 pos : Pos} (S : Sok G gi X W) (hek : G.tb.ek .mal = true) (hg : Gl X "Malformed") : PS X (.Raise (some (.Call (.Name "Malformed" p) [.Constant (.str t) j p2] [] p3)) none pos) (tS G X W (.rmal m)) := by
  obtain ⟨C, hC, h1, h2, h3, h4⟩ := S.mal hek
  refine (ps_raise S.calm S.tk (pmk_own PySem.F.excBase_ValueError h1 hC h2 (raises_own h3 h4) hg)).imp ?_
  rintro D σ H ⟨Z, H0, io, env, P, hi, er, w, l⟩
  exact l.ex .mal σ H env (.ref C) none er .refl ⟨hC, rfl⟩ w
theorem s_app {i : Nat} {e : E} {x : Str} {v : Expr} {p ap cp pos : Pos} (hN : X.N[i]? = some x) (hx : visC X.env.scope x = true) (h : PE X v (tE G X W e)) (hs : ∀ e q, v ≠ .Starred e q) (hl : (ap.endLine == cp.line) = true) :
    PS X (.Expr (.Call (.Attribute (.Name x p) "append" ap) [v] [] cp) pos) (tS G X W (.app i e)) := by
  obtain ⟨h1, h2, h3⟩ := visC_ok hx
  have pe : PE X (.Call (.Attribute (.Name x p) "append" ap) [v] [] cp) _ := pe_bm PySem.F.plainAttrs_list PySem.F.slot_list_append PySem.F.type_list_append mt_append (pe_var hN h1 h2 h3) (pa_cons h pa_nil (star_ok hs _ _)) rfl
    (by rw [star_ok hs]; rfl) hl (star_ok hs _ _) rfl
  refine (ps_expr pe rfl).imp ?_
  rintro D σ H ⟨Z, H0, io, env, P, hi, er, w, l⟩
  unfold wS at w
  obtain ⟨ho, w⟩ := w
  cases hc : at_ env i with
  | own d =>
    rw [hc] at ho
    cases d with
    | lst xs =>
      obtain ⟨a, e1, ro⟩ := er.own i _ (at_some hc (by intro z; cases z))
      cases ro with
      | lst hH hr =>
        refine ⟨.ref a, e1, .inl ⟨rfl, _, .of hH⟩, Z, H0, io, env, _, _, hi, er, l.lk, w, fun y env1 u H1 er1 m1 r1 _ w1 => ?_⟩
        cases hc1 : at_ env1 i with
        | own d1 =>
          rw [hc1] at w1
          cases d1 with
          | lst ys =>
            have hcell := at_some hc1 (by intro z; cases z)
            obtain ⟨b, e2, ro1⟩ := er1.own i _ hcell
            rw [e1] at e2; cases e2
            cases ro1 with
            | lst hH1 hr1 =>
              obtain ⟨hlen, w1⟩ := w1
              rename_i us
              refine ⟨a, us, u, rfl, rfl, hH1, by rw [hr1.length]; exact hlen, ?_⟩
              have hsee : Same (hid Z σ env1 H1) (hid Z σ env1 (upd H1 a (.lst (us ++ [u])))) := fun b o hb => by
                obtain ⟨a1, a2, a3⟩ := hid_some hb
                refine hid_of a1 a2 ?_
                rw [upd_ne fun z => a2 (by rw [z]; exact ⟨i, _, hcell, e1⟩)]
                exact a3
              obtain ⟨er2, m2⟩ := er1.change (d' := .lst (ys ++ [y])) (H' := upd H1 a (.lst (us ++ [u]))) hcell e1 (fun b o hb ho => by rw [upd_ne hb]; exact ho) (.lst upd_same ((hr1.mono hsee).append (.cons (r1.mono hsee) .nil)))
              exact l.nx σ _ _ er2 (m1.trans m2) w1
          | _ => exact w1.elim
        | emp => rw [hc1] at w1; exact w1.elim
        | val d => rw [hc1] at w1; exact w1.elim
    | _ => cases ho
  | emp => rw [hc] at ho; cases ho
  | val d => rw [hc] at ho; cases ho
theorem s_seti {i : Nat} {a e : E} {x : Str} {k v : Expr} {p p2 pos : Pos} (hN : X.N[i]? = some x) (hx : visC X.env.scope x = true) (hk : PE X k (tE G X W a)) (h : PE X v (tE G X W e)) (ha : ∀ v, assign (.Subscript (.Name x p) k p2) X.env v = (do
      let ov ← holding [v] (eval (.Name x p) X.env)
      let iv ← holding [v, ov] (eval k X.env)
      standAt p2
      holding [v, ov, iv] (setItem ov iv v)
      release [v, ov, iv] [])) : PS X (.Assign [.Subscript (.Name x p) k p2] v pos) (tS G X W (.seti i a e)) := by
  obtain ⟨h1, h2, h3⟩ := visC_ok hx
  refine (ps_asg h (pg_sub (pe_var hN h1 h2 h3) hk set_list ha) (swap_other (t := .Subscript (.Name x p) k p2) (by intro x q z; cases z) pos.line X.env) (by cases v <;> rfl) rfl).imp ?_
  rintro D σ H ⟨Z, H0, io, env, P, hi, er, w, l⟩
  unfold wS at w
  refine ⟨Z, H0, io, env, _, _, hi, er, l.lk, w, fun y env1 u H1 er1 m1 r1 _ w1 => ?_⟩
  obtain ⟨ho, w1⟩ := w1
  cases hc : at_ env1 i with
  | own d =>
    obtain ⟨b, e1, _⟩ := er1.own i _ (at_some hc (by intro z; cases z))
    refine ⟨.ref b, e1, Z, H0, io, env1, _, _, hi, er1, (l.step m1).lk, w1, fun j env2 ju H2 er2 m2 r2 _ w2 => ?_⟩
    cases hc2 : at_ env2 i with
    | own d2 =>
      rw [hc2] at w2
      cases d2 with
      | lst ys =>
        cases j with
        | int kk =>
          obtain ⟨n, hn, w2⟩ := w2
          cases r2
          have hcell := at_some hc2 (by intro z; cases z)
          obtain ⟨b', e2, ro⟩ := er2.own i _ hcell
          rw [e1] at e2; cases e2
          cases ro with
          | lst hH hr =>
            rename_i us
            refine ⟨b, us, kk, n, rfl, rfl, hH, by rw [hr.length]; exact hn, ?_⟩
            have hsee : Same (hid Z σ env2 H2) (hid Z σ env2 (upd H2 b (.lst (us.set n u)))) := fun c o hb => by
              obtain ⟨a1, a2, a3⟩ := hid_some hb
              refine hid_of a1 a2 ?_
              rw [upd_ne fun z => a2 (by rw [z]; exact ⟨i, _, hcell, e1⟩)]
              exact a3
            obtain ⟨er3, m3⟩ := er2.change (d' := .lst (ys.set n y)) (H' := upd H2 b (.lst (us.set n u))) hcell e1 (fun b o hb ho => by rw [upd_ne hb]; exact ho) (.lst upd_same ((hr.mono hsee).set ((r1.mono m2.see).mono hsee) n))
            exact l.nx σ _ _ er3 ((m1.trans m2).trans m3) w2
        | _ => exact w2.elim
      | _ => exact w2.elim
    | emp => rw [hc2] at w2; exact w2.elim
    | val d => rw [hc2] at w2; exact w2.elim
  | emp => rw [hc] at ho; cases ho
  | val d => rw [hc] at ho; cases ho
end
end Pd

/-! Soundness of statements: several names at once. -/
namespace Pd
open L2 PyProof.Rows PySem.Spec PySem

def Zl (Z : Addr → Prop) (ps : List Addr) : Addr → Prop := fun b => Z b ∨ b ∈ ps
theorem Zl_nil (Z : Addr → Prop) : Zl Z [] = Z := by
  funext b
  simp [Zl]
theorem Zl_cons (Z : Addr → Prop) (p : Addr) (ps : List Addr) : Zl (zx Z p) ps = Zl Z (p :: ps) := by
  funext b
  simp [Zl, zx, or_assoc]
theorem Zl_cons' (Z : Addr → Prop) (p : Addr) (ps : List Addr) : Zl Z (p :: ps) = zx (Zl Z ps) p := by
  funext b
  simp only [Zl, zx, List.mem_cons, eq_iff_iff]
  constructor
  · rintro (h | h | h)
    · exact .inl (.inl h)
    · exact .inr h
    · exact .inl (.inr h)
  · rintro ((h | h) | h)
    · exact .inl h
    · exact .inr (.inr h)
    · exact .inr (.inl h)
/-- values with what their locals will be; ps: the new lists, that nothing refers to -/
inductive CsR (R : RC) (H0 Hs : Hp) (io : Option (Nat × Addr)) (Hh H : Hp) (Z : Addr → Prop) : List V → List Cl → List Addr → Prop
  | nil : CsR R H0 Hs io Hh H Z [] [] []
  | val {v : V} {d : D} {vs : List V} {cs : List Cl} {ps : List Addr} : Rep R Hh v d → CsR R H0 Hs io Hh H Z vs cs ps → CsR R H0 Hs io Hh H Z (v :: vs) (.val d :: cs) ps
  | own {p : Addr} {d : D} {vs : List V} {cs : List Cl} {ps : List Addr} : RepO R H Hh p d → H0 p = none → Hs p = none → (∀ k, io ≠ some (k, p)) → ¬ Z p → p ∉ ps → CsR R H0 Hs io Hh H Z vs cs ps →
      CsR R H0 Hs io Hh H Z (.ref p :: vs) (.own d :: cs) (p :: ps)
section
variable {R : RC} {H0 Hs Hs' : Hp} {io : Option (Nat × Addr)} {Hh Hh' H H' : Hp} {Z Z' : Addr → Prop}
theorem CsR.imp (hh : Same Hh Hh') (hk : ∀ p, ¬ Z p → (∃ o, H p = some o) → H' p = H p) (hs : ∀ p, Hs p = none → Hs' p = none) (hz : ∀ b, Z' b → Z b) : ∀ {vs : List V} {cs : List Cl} {ps : List Addr}, CsR R H0 Hs io Hh H Z vs cs ps → CsR R H0 Hs' io Hh' H' Z' vs cs ps
  | _, _, _, .nil => .nil
  | _, _, _, .val r t => .val (r.mono hh) (CsR.imp hh hk hs hz t)
  | _, _, _, .own r a b c d e t => .own (r.mono (hk _ d r.some) hh) a (hs _ b) c (fun z => d (hz _ z)) e (CsR.imp hh hk hs hz t)
theorem CsR.nz : ∀ {vs : List V} {cs : List Cl} {ps : List Addr}, CsR R H0 Hs io Hh H Z vs cs ps → ∀ p ∈ ps, ¬ Z p ∧ Hs p = none
  | _, _, _, .nil, _, h => by cases h
  | _, _, _, .val _ t, p, h => CsR.nz t p h
  | _, _, _, .own _ _ b _ d _ t, p, h => by
    rcases List.mem_cons.mp h with rfl | h
    · exact ⟨d, b⟩
    · exact CsR.nz t p h
theorem CsR.len : ∀ {vs : List V} {cs : List Cl} {ps : List Addr}, CsR R H0 Hs io Hh H Z vs cs ps → vs.length = cs.length
  | _, _, _, .nil => rfl
  | _, _, _, .val _ t => congrArg (· + 1) t.len
  | _, _, _, .own _ _ _ _ _ _ t => congrArg (· + 1) t.len
end
theorem Lk.hide {R : RC} {Z : Addr → Prop} {H0 : Hp} {io : Option (Nat × Addr)} {W : WX} {σ : Sg} {H : Hp} {env : Loca} {Xd : Xq} {p : Addr} (l : Lk R Z H0 io W σ H env Xd) : Lk R (zx Z p) H0 io W σ H env Xd :=
  fun x env' c dd H' r m h k => l x env' c dd H' r.unhide m h k
section
variable {R : RC} {H0 Hs : Hp} {io : Option (Nat × Addr)} {Z : Addr → Prop}
/-- the locals are stored -/
theorem ER.putCs : ∀ {vs : List V} {cs : List Cl} {ps : List Addr} {is : List Nat} {σ : Sg} {H : Hp} {env : Loca} {σs : Sg} {envs : Loca}, ER R (Zl Z ps) H0 io σ H env → Mono σs Hs envs σ H env → CsR R H0 Hs io (hid (Zl Z ps) σ env H) H Z vs cs ps → vs.length = is.length →
    (∀ i ∈ is, ∀ a, io ≠ some (i, a)) → ER R Z H0 io (setAll σ is vs) H (Pd.putCs env is cs) ∧ Mono σs Hs envs (setAll σ is vs) H (Pd.putCs env is cs) := by
  intro vs
  induction vs with
  | nil =>
    intro cs ps is σ H env σs envs r m cr hl hi
    cases cr
    cases is with
    | nil => exact ⟨by rw [Zl_nil] at r; exact r, m⟩
    | cons => cases hl
  | cons v vs ih =>
    intro cs ps is σ H env σs envs r m cr hl hi
    cases is with
    | nil => cases hl
    | cons i is =>
      have hi' : ∀ j ∈ is, ∀ a, io ≠ some (j, a) := fun j hj => hi j (List.mem_cons_of_mem _ hj)
      cases cr with
      | val q t =>
        obtain ⟨r1, m1⟩ := r.put q (hi i List.mem_cons_self)
        exact ih (is := is) r1 (m.trans m1) (t.imp m1.see (fun _ _ _ => rfl) (fun _ h => h) fun _ h => h) (Nat.succ.inj hl) hi'
      | own q a b c d e t =>
        rename_i p dd cs ps
        rw [Zl_cons'] at r q t
        have r1 := r.putHid (fun z => z.elim d e) a c (hi i List.mem_cons_self) q
        have m1 := m.putHid (i := i) (d := dd) b
        have hsee : Same (hid (zx (Zl Z ps) p) σ env H) (hid (Zl Z ps) (σ.set i (some (.ref p))) (Pd.put env i (.own dd)) H) := fun b o hb => by
          obtain ⟨a1, a2, a3⟩ := hid_some hb
          refine hid_of (fun z => a1 (.inl z)) (fun ⟨j, f, q1, q2⟩ => ?_) a3
          rw [put_eq] at q1
          rcases set_at q2 with ⟨_, z, _⟩ | ⟨z, q2⟩
          · cases z
            exact a1 (.inr rfl)
          · rw [List.getElem?_set_ne z] at q1
            exact a2 ⟨j, f, q1, q2⟩
        exact ih (is := is) r1 m1 (t.imp hsee (fun _ _ _ => rfl) (fun _ h => h) fun _ h => h) (Nat.succ.inj hl) hi'
end
section
variable {G : Gx} {gi : Str → Option Int} {X : Cx} {W : WX}
def tCs (G : Gx) (X : Cx) (W : WX) (e : E) : TA := fun σ H Q => ∃ (Z : Addr → Prop) (H0 : Hp) (io : Option (Nat × Addr)) (env : Loca) (Qd : List Cl → Loca → Prop) (Xd : Xq),
  G.iop = io.map (·.1) ∧ ER (rcOf G X) Z H0 io σ H env ∧ Lk (rcOf G X) Z H0 io W σ H env Xd ∧ wCs G e env Qd Xd ∧
  ∀ cs env' vs H' ps, ER (rcOf G X) (Zl Z ps) H0 io σ H' env' → Mono σ H env σ H' env' → CsR (rcOf G X) H0 H io (hid (Zl Z ps) σ env' H') H' Z vs cs ps → vs.length = lnE e → Qd cs env' → Q vs H'
theorem s_cs : ∀ {es : E} {ps : List Expr}, Cok G gi X W → mA (mxOf G gi X) es X.env.scope ps = true → PA X ps (tCs G X W es) := by
  intro es
  induction es with
  | nil =>
    intro ps C h
    cases ps with
    | nil =>
      refine pa_nil.imp ?_
      rintro σ H Q ⟨Z, H0, io, env, Qd, Xd, hio, er, lk, w, fin⟩
      exact fin [] env [] H [] (by rw [Zl_nil]; exact er) .refl .nil rfl w
    | cons => simp [mA] at h
  | cons e es _ ih =>
    intro ps C h
    cases ps with
    | nil => simp [mA] at h
    | cons p ps =>
      simp only [mA, Bool.and_eq_true] at h
      refine (pa_cons ((snd e).ex X W p C h.1) (ih C h.2) (star_ok (not_star h.1) _ _)).imp ?_
      rintro σ H Q ⟨Z, H0, io, env, Qd, Xd, hio, er, lk, w, fin⟩
      unfold wCs at w
      refine ⟨Z, H0, io, env, _, Xd, hio, er, lk, w, fun d env1 v1 H1 er1 m1 r1 f1 w1 => ?_⟩
      by_cases hb : (frE G.tb e && isMut d) = true
      · have hb' := hb
        simp only [Bool.and_eq_true] at hb'
        obtain ⟨q, rfl, fi⟩ := f1 hb'.1 hb'.2
        refine ⟨zx Z q, H0, io, env1, _, Xd, hio, fi.er, (lk.step m1).hide, w1, fun cs env2 vs H2 ps er2 m2 cr lq k => ?_⟩
        have hcell : cellOf G.tb e d = .own d := by unfold cellOf; rw [if_pos hb]
        rw [hcell] at k
        have nown : ¬ Own σ env1 q := fun z => let ⟨k, e⟩ := fi.er.zown q z (.inr rfl); fi.nio k e
        obtain ⟨o, ho⟩ := fi.cont.some
        have hq2 : H2 q = H1 q := (m2.keep q o ho nown).trans ho.symm
        have hsee : Same (hid (zx Z q) σ env1 H1) (hid (Zl (zx Z q) ps) σ env2 H2) := fun b u hb => by
          obtain ⟨a1, a2, a3⟩ := hid_some (m2.see b u hb)
          refine hid_of (fun z => z.elim a1 fun z => ?_) a2 a3
          have := (cr.nz b z).2
          obtain ⟨_, _, a6⟩ := hid_some hb
          rw [this] at a6; cases a6
        have cr' : CsR (rcOf G X) H0 H io (hid (Zl (zx Z q) ps) σ env2 H2) H2 Z vs cs ps := cr.imp (.refl _) (fun _ _ _ => rfl) (fun _ h => m1.free h) fun _ h => .inl h
        refine fin (.own d :: cs) env2 (.ref q :: vs) H2 (q :: ps) (by rw [← Zl_cons]; exact er2) (m1.trans m2) ?_ (congrArg (· + 1) lq) k
        rw [← Zl_cons]
        exact .own (fi.cont.mono hq2 hsee) fi.h0 fi.hs fi.nio fi.nz (fun z => (cr.nz q z).1 (.inr rfl)) cr'
      · refine ⟨Z, H0, io, env1, _, Xd, hio, er1, lk.step m1, w1, fun cs env2 vs H2 ps er2 m2 cr lq k => ?_⟩
        have hcell : cellOf G.tb e d = .val d := by unfold cellOf; rw [if_neg hb]
        rw [hcell] at k
        have hsee : Same (hid Z σ env1 H1) (hid (Zl Z ps) σ env2 H2) := fun b u hb => by
          obtain ⟨a1, a2, a3⟩ := hid_some (m2.see b u hb)
          refine hid_of (fun z => z.elim a1 fun z => ?_) a2 a3
          have := (cr.nz b z).2
          obtain ⟨_, _, a6⟩ := hid_some hb
          rw [this] at a6; cases a6
        exact fin (.val d :: cs) env2 (v1 :: vs) H2 ps er2 (m1.trans m2) (.val (r1.mono hsee) (cr.imp (.refl _) (fun _ _ _ => rfl) (fun _ h => m1.free h) fun _ h => h)) (congrArg (· + 1) lq) k
  | _ => intro ps C h; simp [mA] at h
/-- the end of a store of several names -/
theorem par_end {is : List Nat} {es : E} {D : Ends} {σ : Sg} {H : Hp} {Q : List V → Hp → Prop} (h : tS G X W (.par is es) D σ H) (hQ : ∀ vs H', vs.length = lnE es → (vs.length = is.length → D.nx (setAll σ is vs) H') → Q vs H') : tCs G X W es σ H Q := by
  obtain ⟨Z, H0, io, env, P, hi, er, w, l⟩ := h
  unfold wS at w
  refine ⟨Z, H0, io, env, _, _, hi, er, l.lk, w, fun cs env' vs H' ps r m cr lq k => hQ vs H' lq fun hl => ?_⟩
  obtain ⟨h1, k⟩ := k
  obtain ⟨r1, m1⟩ := r.putCs m cr hl fun i h => ne_io hi (h1 i h)
  exact l.nx _ H' _ r1 m1 k
end
end Pd

/-! Soundness of statements: all of them but try. -/
namespace Pd
open L2 PyProof.Rows PySem.Spec PySem

theorem swapC_ok {env : Env} (hk : env.scope.kind = .function) {ts vs : List Expr} {k k2 : Nat} {p p2 : Pos} {r : Option (List Str)} (h : swapC env.scope ts vs = some r) : swappedStores [.Tuple ts k p] (.Tuple vs k2 p2) env = pure r := by
  have hb : (env.blockKind != .function) = false := by
    unfold Env.blockKind
    rw [hk]; rfl
  unfold swapC at h
  unfold swappedStores
  dsimp only
  rw [hb, Bool.or_false]
  split at h
  · rename_i c1
    cases h
    rw [if_pos c1]
  · rename_i c1
    rw [if_neg c1]
    split at h
    · cases h
    · rename_i c2
      have e1 : ∀ f : Expr → Bool, (∀ x, f x = starC x) → vs.any f = vs.any starC := fun f h => by rw [show f = starC from funext h]
      have e2 : ∀ f : Expr → Option Str, (∀ x, f x = slotName env.scope (headLine ts) x) → ts.filterMap f = ts.filterMap (slotName env.scope (headLine ts)) := fun f h => by rw [show f = slotName env.scope (headLine ts) from funext h]
      rw [e1 _ (by intro x; cases x <;> rfl), e2 _ (by intro x; cases x <;> rfl)]
      rw [if_neg c2]
      split at h
      · rename_i c3
        cases h
        rw [if_pos c3]
      · rename_i c3
        rw [if_neg c3]
        split at h
        · rename_i c4
          cases h
          rw [if_pos c4]
        · rename_i c4
          rw [if_neg c4]
          split at h
          · cases h
          · rename_i c5
            cases h
            rw [if_neg c5]
section
variable {G : Gx} {gi : Str → Option Int} {X : Cx} {W : WX}
theorem CsR.grow {R : RC} {H0 Hs : Hp} {io : Option (Nat × Addr)} {Hh Hh' H H' : Hp} {Z : Addr → Prop} {vs : List V} {cs : List Cl} {ps : List Addr} (c : CsR R H0 Hs io Hh H Z vs cs ps) (e : Same H H') (hh : Same Hh Hh') : CsR R H0 Hs io Hh' H' Z vs cs ps :=
  c.imp hh (fun p _ ⟨o, ho⟩ => (e _ _ ho).trans ho.symm) (fun _ h => h) fun _ h => h
theorem mNames_len {N : List Str} {sc : Scope} : ∀ {is : List Nat} {es : List Expr}, mNames N sc is es = true → is.length = es.length
  | [], [], _ => rfl
  | i :: is, .Name x p :: es, h => by
    simp only [mNames, Bool.and_eq_true] at h
    exact congrArg (· + 1) (mNames_len h.2)
  | [], _ :: _, h => by simp [mNames] at h
  | _ :: _, [], h => by simp [mNames] at h
theorem mNames_cons {N : List Str} {sc : Scope} {i : Nat} {is : List Nat} {e : Expr} {es : List Expr} (h : mNames N sc (i :: is) (e :: es) = true) : ∃ x p, e = .Name x p ∧ N[i]? = some x ∧ locC sc x = true ∧ mNames N sc is es = true := by
  cases e with
  | Name x p =>
    simp only [mNames, Bool.and_eq_true, decide_eq_true_eq] at h
    exact ⟨x, p, rfl, h.1.1, h.1.2, h.2⟩
  | _ => simp [mNames] at h
theorem s_parG {is : List Nat} {es : E} {ts vs : List Expr} {k k2 : Nat} {p p2 pos : Pos} (S : Sok G gi X W) (hm : mNames X.N X.env.scope is ts = true) (h : mA (mxOf G gi X) es X.env.scope vs = true) (hl : vs.length ≤ 1000) (hlt : ts.length = vs.length)
    (hw : swappedStores [.Tuple ts k p] (.Tuple vs k2 p2) X.env = pure none) : PS X (.Assign [.Tuple ts k p] (.Tuple vs k2 p2) pos) (tS G X W (.par is es)) := by
  have St : Stor X X.N X.env.scope := ⟨rfl, fun x hx => ⟨locC_ok hx, .inl (S.fnt x)⟩⟩
  obtain ⟨g, g1, g2⟩ := pgs_names St S.nd hm
  refine (ps_asg (pe_tup (s_cs S.toCok h)) (pg_tup S.calm g g1 g2) rfl hw rfl).imp ?_
  rintro D σ H ⟨Z, H0, io, env, P, hi, er, w, l⟩
  unfold wS at w
  have hln := (mA_len _ _ h).1
  have hlm := mNames_len hm
  refine ⟨Z, H0, io, env, _, _, hi, er, l.lk, w, fun cs env' us H' ps r m cr lq q => ?_⟩
  obtain ⟨h1, q⟩ := q
  have hul : us.length = is.length := by omega
  refine ⟨line1000 (by omega), fun t ht => ⟨t, us, rfl, .of upd_same, hul, hul, ?_⟩⟩
  have e1 : Same H' (upd H' t (.tup us)) := same_new ht
  obtain ⟨r1, m1⟩ := (r.grow e1).putCs (m.trans (mono_grow e1)) (cr.grow e1 (see_grow e1)) hul fun i h => ne_io hi (h1 i h)
  exact l.nx _ _ _ r1 m1 q
theorem loc_of {sc : Scope} {x : Str} (h : isLocC sc x = true) : sc.names.lookup x = some .local := by
  unfold isLocC at h
  split at h
  · assumption
  · cases h
theorem slot_names {sc : Scope} {l : Nat} : ∀ {ts : List Expr} {names : List Str}, ts.filterMap (slotName sc l) = names → names.length = ts.length → names = ts.map fun t => match t with
    | .Name x _ => x
    | _ => "" := fun {ts} => by
  induction ts with
  | nil => intro names h _; subst h; rfl
  | cons t ts ih =>
    intro names h hl
    have hle : (ts.filterMap (slotName sc l)).length ≤ ts.length := List.length_filterMap_le _ _
    rw [List.filterMap_cons] at h
    cases hs : slotName sc l t with
    | none =>
      rw [hs] at h
      dsimp only at h
      rw [← h] at hl
      simp only [List.length_cons] at hl
      omega
    | some x =>
      rw [hs] at h
      dsimp only at h
      subst h
      simp only [List.length_cons] at hl
      have := ih rfl (by omega)
      rw [List.map_cons, this]
      cases t with
      | Name y p =>
        simp only [slotName] at hs
        by_cases c : (List.lookup y sc.names == some NameKind.local && p.line == l) = true
        · rw [if_pos c] at hs
          exact congrArg (· :: _) (Option.some.inj hs).symm
        · rw [if_neg c] at hs
          cases hs
      | _ => simp [slotName] at hs
theorem s_par {is : List Nat} {es : E} {ts vs : List Expr} {k k2 : Nat} {p p2 pos : Pos} (S : Sok G gi X W) (hm : mNames X.N X.env.scope is ts = true) (h : mA (mxOf G gi X) es X.env.scope vs = true) (hl : vs.length ≤ 1000) (hlt : ts.length = vs.length) (hnd : is.Nodup)
    (hp : mPar X.env.scope ts vs = true) : PS X (.Assign [.Tuple ts k p] (.Tuple vs k2 p2) pos) (tS G X W (.par is es)) := by
  unfold mPar at hp
  simp only [Bool.and_eq_true] at hp
  obtain ⟨hk, hp⟩ := hp
  have hk : X.env.scope.kind = .function := by
    split at hk
    · assumption
    · cases hk
  split at hp
  · rename_i hs
    exact s_parG S hm h hl hlt (swapC_ok hk hs)
  · rename_i names hs
    have hw := swapC_ok (k := k) (p := p) (k2 := k2) (p2 := p2) hk hs
    have hn : names = ts.filterMap (slotName X.env.scope (headLine ts)) ∧ names.length = ts.length ∧ (ts.length = 2 ∨ ts.length = 3) := by
      unfold swapC at hs
      split at hs
      · cases hs
      · rename_i c1
        split at hs
        · cases hs
        · split at hs
          · cases hs
          · rename_i c3
            split at hs
            · cases hs
            · split at hs
              · cases hs
              · cases hs
                refine ⟨rfl, ?_, ?_⟩
                · simp only [Bool.or_eq_true, bne_iff_ne, ne_eq, not_or, Decidable.not_not] at c3
                  exact c3.1
                · simp only [Bool.or_eq_true, Bool.not_eq_true', Bool.or_eq_false_iff, beq_eq_false_iff_ne, bne_iff_ne, ne_eq, not_or, not_and, Decidable.not_not] at c1
                  omega
    have hnm := slot_names hn.1.symm hn.2.1
    have hlm := mNames_len hm
    have hln := (mA_len _ _ h).1
    rw [hnm] at hw
    rcases hn.2.2 with h2 | h3
    · match ts, vs, is, hm, h, hlt, h2, hp, hnd, hw with
      | [t1, t2], [v1, v2], [i, j], hm, h, _, _, hp, hnd, hw =>
        obtain ⟨x, px, rfl, hx, _, hm⟩ := mNames_cons hm
        obtain ⟨y, py, rfl, hy, _, _⟩ := mNames_cons hm
        simp only [List.all_cons, List.all_nil, Bool.and_true, Bool.and_eq_true] at hp
        have hij : i ≠ j := by
          intro e
          subst e
          simp at hnd
        refine (ps_par S.calm S.nd hx hy hij (loc_of hp.1) (loc_of hp.2) (s_cs S.toCok h) hw rfl).imp fun D σ H w => par_end w fun us H' lq q => ?_
        match us, lq, q with
        | [a, b], _, q => exact ⟨a, b, rfl, q rfl⟩
        | [], lq, _ => simp only [List.length_nil, List.length_cons] at lq hln; omega
        | [_], lq, _ => simp only [List.length_nil, List.length_cons] at lq hln; omega
        | _ :: _ :: _ :: _, lq, _ => simp only [List.length_nil, List.length_cons] at lq hln; omega
    · match ts, vs, is, hm, h, hlt, h3, hp, hnd, hw with
      | [t1, t2, t3], [v1, v2, v3], [i, j, l], hm, h, _, _, hp, hnd, hw =>
        obtain ⟨x, px, rfl, hx, _, hm⟩ := mNames_cons hm
        obtain ⟨y, py, rfl, hy, _, hm⟩ := mNames_cons hm
        obtain ⟨z, pz, rfl, hz, _, _⟩ := mNames_cons hm
        simp only [List.all_cons, List.all_nil, Bool.and_true, Bool.and_eq_true] at hp
        simp only [List.nodup_cons, List.mem_cons, List.not_mem_nil, or_false, not_or] at hnd
        refine (ps_par3 S.calm S.nd hx hy hz hnd.1.1 hnd.1.2 hnd.2.1 (loc_of hp.1) (loc_of hp.2.1) (loc_of hp.2.2) (s_cs S.toCok h) hw rfl).imp fun D σ H w => par_end w fun us H' lq q => ?_
        match us, lq, q with
        | [a, b, c], _, q => exact ⟨a, b, c, rfl, q rfl⟩
        | [], lq, _ => simp only [List.length_nil, List.length_cons] at lq hln; omega
        | [_], lq, _ => simp only [List.length_nil, List.length_cons] at lq hln; omega
        | [_, _], lq, _ => simp only [List.length_nil, List.length_cons] at lq hln; omega
        | _ :: _ :: _ :: _ :: _, lq, _ => simp only [List.length_nil, List.length_cons] at lq hln; omega
  · cases hp
end
end Pd

/-! try, with several except clauses, with names or without. -/
namespace Pd
open L2 PyProof.Rows PySem.Spec PySem

/-- a clause: its class, its name's slot, its suite's reading -/
structure Hd where
  c : Value
  sl : Option Nat
  ts : Addr → Value → Option Addr → TS
def offE (D : Ends) : Option Nat → Ends
  | none => D
  | some i => ⟨fun τ G => D.nx (τ.set i none) G, D.rt, fun τ G => D.bk (τ.set i none) G, fun τ G => D.ct (τ.set i none) G⟩
def onS (σ : Sg) (a : Addr) : Option Nat → Sg
  | none => σ
  | some i => σ.set i (some (.ref a))
def wX (K : PySem.W.Frag) (Wo : WX) (D : Ends) : List Hd → WX
  | [] => Wo
  | h :: r => fun cls d σ H => ∃ b, PySem.W.exmOne K cls h.c = some b ∧ (b = true → ∀ a, H a = none → h.ts a cls d (offE D h.sl) (onS σ a h.sl) H) ∧ (b = false → wX K Wo D r cls d σ H)
abbrev SuiteOk (X : Cx) (su : List Stmt) (ts : Addr → Value → Option Addr → TS) : Prop :=
  ∀ (a : Addr) (oe : Obj) (cls : Value) (d : Option Addr) (pn : List (Addr × Obj)), Zc cls d oe → (∃ vs, oe.data = .fields vs) → PSs (X.suite a ((a, oe) :: pn)) su (ts a cls d)
inductive HdX (X : Cx) : List ExceptHandler → List Hd → Prop
  | nil : HdX X [] []
  | plain {x : Str} {c : Value} {ts : Addr → Value → Option Addr → TS} {b0 : Stmt} {su : List Stmt} {np q : Pos} {hs : List ExceptHandler} {l : List Hd} : Names X x c → SuiteOk X (b0 :: su) ts → HdX X hs l →
      HdX X (.ExceptHandler (some (.Name x np)) none (b0 :: su) q :: hs) (⟨c, none, ts⟩ :: l)
  | named {x n : Str} {i : Nat} {c : Value} {ts : Addr → Value → Option Addr → TS} {b0 : Stmt} {su : List Stmt} {np q : Pos} {hs : List ExceptHandler} {l : List Hd} : Names X x c → X.N[i]? = some n → X.env.kindOf n = some .local → SuiteOk X (b0 :: su) ts → HdX X hs l →
      HdX X (.ExceptHandler (some (.Name x np)) (some n) (b0 :: su) q :: hs) (⟨c, some i, ts⟩ :: l)
section
variable {X : Cx} {body : List Stmt} {h0 : ExceptHandler} {hs : List ExceptHandler} {l : List Hd} {pos : Pos} {tb : WX → TS} {Wo : WX}
theorem ps_tryX (st : X.stack = X.env :: X.outer) (fr : X.env.frame = some X.env.locals) (hN : X.N.Nodup) (tk : Takes X Wo)
    (hb : ∀ (W : WX) (pn : List (Addr × Obj)) (xe : Value → Shared → Prop), Takes (X.tr pn xe) W → PassesOwn (model X.prog X.w) X.A X.env xe → PSs (X.tr pn xe) body (tb W)) (hh : HdX X (h0 :: hs) l) :
    PS X (.Try body (h0 :: hs) [] [] pos) (fun D σ H => tb (wX X.K Wo D l) D σ H) := by
  refine ⟨fun pins s σ H D I w0 => ?_⟩
  have ok := I.ok
  have afr : X.A.frames = some (X.env :: X.outer) := ok.frames.trans (congrArg some st)
  have back : ∀ {f : Flow} {s1 : Shared} {pn : List (Addr × Obj)} {xe : Value → Shared → Prop}, SP (X.tr (X.pn ++ pins) xe) pn D f s1 → SP X pins D f s1 := fun {f s1 pn xe} z => by
    cases f <;> first
      | exact let ⟨a, b, c, q⟩ := z; ⟨a, b, c.ofTry ok, q⟩
      | exact let ⟨a, b, c, e, r, q⟩ := z; ⟨a, b, c, e.ofTry ok, r, q⟩
  refine wpAny_Try_except (wpAny_mono ((hb (wX X.K Wo D l) (X.pn ++ pins) _ (fun u s' air => ?_) PassesOwn.looking).run [] s σ H D (I.toTry _) w0) (fun f s1 z => ?_) fun _ _ z => z)
  rotate_left
  · have z' := back z
    cases f <;> first | exact wpAny_execs_nil z' | exact z'
  · obtain ⟨a, B, sI, pins', τ, G, cls, d, rfl, J0, nb, up, sky, na, hos, bare, w⟩ := air
    have J : Inv X pins τ G sI := J0.ofTry ok
    rw [show X.stack = X.env :: X.outer from st] at sky
    refine Sky.land (env := X.env) (outer := X.outer) Zc.steady afr fr sky fun h3 fl3 up3 => ?_
    have J3 : Inv X pins τ G { s' with heap := h3 } := J.landed nb fl3.1 (up.trans up3) hos bare
    obtain ⟨o3, v3, g3, z3, d3⟩ := fl3.there
    have nfr : a ∉ frs (X.env :: X.outer) := fun hm => by
      obtain ⟨_, o', e', hnf⟩ := fl3.2.2.1.mem hm
      rw [g3] at e'
      cases e'
      exact hnf _ d3
    have nL : a ≠ X.env.locals := fun z => nfr (List.mem_filterMap.mpr ⟨X.env, List.mem_cons_self, fr.trans (congrArg some z.symm)⟩)
    have nF : a ∉ X.fs := fun hm => by
      obtain ⟨e, he, q⟩ := List.mem_filterMap.mp hm
      exact nfr (List.mem_filterMap.mpr ⟨e, List.mem_cons_of_mem _ he, q⟩)
    have S3 := J3.suite g3 d3 na nL nF
    -- the test of a clause
    have test : ∀ {x : Str} {c : Value} {np : Pos} {b : Bool} {Q : Value → Shared → Prop} {R : Bool → Shared → Prop}, Names X x c → True := fun _ => trivial
    have name : ∀ {x : Str} {c : Value} {np : Pos} {Q : Value → Shared → Prop} {E : Value → Shared → Prop}, Names X x c → Q c { s' with heap := h3 } → wpAny (model X.prog X.w) (X.A.mark (some (.ref a))) (eval (.Name x np) X.env) Q E { s' with heap := h3 } :=
      fun {x c np Q E} hc q => by
        obtain ⟨hg, hdbg, hm⟩ := hc
        rcases hm with hm | ⟨hm, hv, hnn⟩
        · exact ld_glob (X := X.suite a ((a, o3) :: (X.pn ++ pins))) S3 hg hm q hdbg
        · exact ld_blt (X := X.suite a ((a, o3) :: (X.pn ++ pins))) S3 hg hm hv q hnn hdbg
    have LT : PySem.W.Looks (model X.prog X.w) h3 (typeOf (.ref a)) cls := fun A Q E s k q => wpAny_typeOf_ref (k _ _ g3) (by rw [z3.1]; exact q)
    -- the suite's state
    have suite : ∀ {h4 : Heap}, HandSPX.FlyingZ B (X.env :: X.outer) a (Zc cls d) h4 → h3.UpToSlots h4 → ∃ o4, Zc cls d o4 ∧ (∃ vs, o4.data = .fields vs) ∧ Inv (X.suite a ((a, o4) :: (X.pn ++ pins))) [] τ G { s' with heap := h4 } := fun {h4} fl4 up4 => by
      have J4 : Inv X pins τ G { s' with heap := h4 } := J.landed nb fl4.1 ((up.trans up3).trans up4) hos bare
      obtain ⟨o4, v4, g4, z4, d4⟩ := fl4.there
      exact ⟨o4, z4, ⟨v4, d4⟩, J4.suite g4 d4 na nL nF⟩
    suffices go : ∀ {hs' : List ExceptHandler} {l' : List Hd}, HdX X hs' l' → wX X.K Wo D l' cls d τ G → wpAny (model X.prog X.w) X.A (handleBy (.ref a) X.env hs') (SP X pins D) X.xe { s' with heap := h3 } from go hh w
    intro hs' l' hk
    induction hk with
    | nil =>
      intro w
      obtain ⟨_, _, _, oe, vs, T, oT, ts', he, hz, hd, h1, hr⟩ := id fl3
      have fin : wpAny (model X.prog X.w) X.A (setFlight (.ref a) X.env.frame) (fun _ s4 => wpAny (model X.prog X.w) X.A (throw (.ref a) : Sem Flow) (SP X pins D) X.xe s4) X.xe { s' with heap := h3 } := by
        rw [show X.env.frame = some X.env.locals from fr]
        exact HandSPX.setFlight_upZ fl3 fun h4 hh4 up4 => wpAny_throw (tk _ _ ⟨a, B, sI, pins, τ, G, cls, d, rfl, J, nb, (up.trans up3).trans up4, .inr (.inr (by rw [st]; exact hh4)), na, hos, bare, w⟩)
      refine wpAny_handleBy_nil ?_
      unfold PySem.passOn
      refine wpAny_bind (wpAny_field he hd h1 ?_)
      rw [if_neg (by intro z; simp at z)]
      first | exact wpAny_bind (wpAny_pure (wpAny_bind fin)) | exact wpAny_bind fin
    | plain hc hsu _ ih =>
      rintro ⟨b, hb1, hyes, hno⟩
      refine wpAny_handleBy_cons (codeAny_handlers_test ?_) (by intro q; cases q)
      refine name hc ((PySem.W.exm_one (M := model X.prog X.w) J3.kIn LT hb1).here ?_)
      cases b with
      | false => exact ih (hno rfl)
      | true =>
        refine codeAny_handlers_suite (HandSPX.lands_againZ fl3 fun h4 fl4 up4 => ?_)
        obtain ⟨o4, z4, d4, S4⟩ := suite fl4 up4
        refine wpAny_mono ((hsu a o4 cls d (X.pn ++ pins) z4 d4).run [] _ _ G _ S4 (hyes rfl a na)) (fun f s6 z => ?_) fun _ _ z => z.elim
        cases f <;> first
          | exact let ⟨p, q, r, k⟩ := z; ⟨p, q, r.unsuite ok, k⟩
          | exact let ⟨p, q, r, k, m, n⟩ := z; ⟨p, q, r, k.unsuite ok, m, n⟩
    | named hc hi hloc hsu _ ih =>
      rintro ⟨b, hb1, hyes, hno⟩
      refine wpAny_handleBy_cons (codeAny_handlers_test ?_) (by intro q; cases q)
      refine name hc ((PySem.W.exm_one (M := model X.prog X.w) J3.kIn LT hb1).here ?_)
      cases b with
      | false => exact ih (hno rfl)
      | true =>
        refine codeAny_handlers_suite_as (HandSPX.lands_againZ fl3 fun h4 fl4 up4 => ?_)
        obtain ⟨o4, z4, d4, S4⟩ := suite fl4 up4
        refine store_ok (X := X.suite a ((a, o4) :: (X.pn ++ pins))) (v := .ref a) S4 hN hi (.inl hloc) rfl (fun s5 S5 => ?_) (.inr hloc)
        refine wpAny_mono ((hsu a o4 cls d (X.pn ++ pins) z4 d4).run [] s5 _ G _ S5 (hyes rfl a na)) (fun f s6 z => ?_) fun _ _ z => z.elim
        cases f <;> first
          | exact let ⟨_, _, r, k⟩ := z; gone_ok (r.unsuite ok) hN hi hloc fun s7 J7 => ⟨_, _, J7, k⟩
          | exact let ⟨_, _, _, k, m, n⟩ := z; gone_ok (k.unsuite ok) hN hi hloc fun s7 J7 => ⟨_, _, _, J7, m, n⟩
end
end Pd

/-! Soundness of statements: try, a comprehension stored at once, all of them. -/
namespace Pd
open L2 PyProof.Rows PySem.Spec PySem
theorem funC_ok {sc : Scope} (h : funC sc = true) : sc.kind = .function := by
  unfold funC at h
  split at h
  · assumption
  · cases h
section
variable {G : Gx} {gi : Str → Option Int} {X : Cx} {W : WX}
theorem s_asgl {i : Nat} {e : E} {x : Str} {v : Expr} {p pos : Pos} (S : Sok G gi X W) (hN : X.N[i]? = some x) (hl : isLocC X.env.scope x = true) (hm : mE (mxOf G gi X) e X.env.scope v = true) (hf : lcFree x p v = true) (hk : funC X.env.scope = true) :
    PS X (.Assign [.Name x p] v pos) (tS G X W (.asgl i e)) := by
  cases v with
  | ListComp pelt gs scope lp =>
    simp only [lcFree, Bool.and_eq_true, Bool.not_eq_true'] at hf
    cases e with
    | lc is tp it c elt =>
      unfold mE at hm
      split at hm
      · rename_i heq
        cases heq
        simp only [Bool.and_eq_true] at hm
        obtain ⟨⟨⟨⟨m1, m2⟩, m3⟩, m4⟩, m5⟩ := hm
        obtain ⟨q1, q2, q3, q4, q5, q6, q7⟩ := lc_parts (W := W) (snd it) (snd c) (snd elt) S.toCok m1 m2 m3 m4 m5
        refine (ps_setLc S.calm S.nd hN (loc_of hl) (sw_true (funC_ok hk) (loc_of hl) hf.1 hf.2) q1 q2 q4 q5 q6 q7).imp fun D σ H w => ?_
        rw [q3]
        exact asg_red (te := tLc (tI G X W it) (gT X.K is tp) (tC' G X c) (tE G X W0 elt) is) (fun _ h => lc_red h) (show tS G X W (.asg i (.lc is tp it c elt)) D σ H from w)
      · cases hm
    | _ => simp [mE] at hm
  | _ => simp [lcFree] at hf

/-! ### except clauses -/
theorem suite_two {a b : Str} {x y : V} {e1 e2 : Expr} {j : Nat} {p q : Pos} (h1 : ∀ X, PE X e1 (tC x)) (h2 : ∀ X, PE X e2 (tC y)) (n1 : ∀ e q, e1 ≠ .Starred e q) (n2 : ∀ e q, e2 ≠ .Starred e q) :
    SuiteOk X [.Return (some (.Tuple [e1, e2] j p)) q] (fun _ _ _ => fun D _ H => ∀ t, H t = none → D.rt (.ref t) (upd H t (.tup [x, y]))) := by
  intro a oe cls d pn hz hf
  refine (pss_cons (ps_ret (pe_tup (pa_cons (h1 _) (pa_cons (h2 _) pa_nil (star_ok n2 _ _)) (star_ok n1 _ _)))) pss_nil).imp fun D σ H h => ?_
  exact ⟨line1000 (by show 2 ≤ 1000; decide), h⟩
theorem suite_fld {a f n : Str} {i : Nat} {C : Addr} {j jj : Nat} {p p2 p3 p4 q : Pos} (T : XfC X.K C) (hno : PySem.W.findIn X.K (.ref C) f = some none) (hN : X.N[i]? = some n) (hv : visC X.env.scope n = true) :
    SuiteOk X [.Return (some (.Tuple [.Constant (.str a) jj p2, .Attribute (.Name n p3) f p4] j p)) q] (fun r cls d => fun D σ H => σ[i]? = some (some (.ref r)) ∧ cls = .ref C ∧ ∃ (dd : Addr) (fs : List (Str × V)) (v : V), d = some dd ∧ H dd = some (.xd fs) ∧ fs.lookup f = some v ∧
      ∀ t, H t = none → D.rt (.ref t) (upd H t (.tup [.str a, v]))) := by
  intro r oe cls d pn hz hf
  obtain ⟨h1, h2, h3⟩ := visC_ok hv
  have pv : PE (X.suite r ((r, oe) :: pn)) (.Name n p3) _ := pe_var hN h1 h2 h3
  have pa := pe_xf (pos := p4) T hno hz hf pv
  refine (pss_cons (ps_ret (pe_tup (pa_cons pe_str (pa_cons pa pa_nil)))) pss_nil).imp fun D σ H h => ?_
  obtain ⟨g1, g2, dd, fs, v, g3, g4, g5, g6⟩ := h
  exact ⟨_, g1, rfl, g2, dd, fs, v, g3, g4, g5, line1000 (by show 2 ≤ 1000; decide), g6⟩
/-- what a clause's suite hands back stands for data -/
theorem rt_two {R : RC} {Z : Addr → Prop} {H0 H : Hp} {io : Option (Nat × Addr)} {σ : Sg} {env : Loca} {P : Po} {D : Ends} {t : Addr} {vs : List V} {ds : List Pd.D} (er : ER R Z H0 io σ H env) (l : Lks R Z H0 io W σ H env P D) (ht : H t = none)
    (r : ∀ H, Reps R H vs ds) (w : P.rt (.tup ds) false env) : D.rt (.ref t) (upd H t (.tup vs)) := by
  have e1 : Same H (upd H t (.tup vs)) := same_new ht
  have nz : ¬ Z t := fun z => by
    obtain ⟨o, ho⟩ := er.zok t z
    rw [ht] at ho; cases ho
  refine l.rt σ _ env (.ref t) (.tup ds) false (er.grow e1) (mono_grow e1) ⟨.tup (.inl (.inl ?_)) (r _), fun h => by cases h⟩ w
  unfold hz
  rw [if_neg nz]
  exact upd_same
theorem gl_of {x : Str} (h : glC X.env.scope x = true) : Gl X x ∧ (x == ("__debug__" : Str)) = false := glC_ok h
theorem kind_field {R : RC} {H : Hp} {c : Value} {dd : Option Addr} {x : Exn} (h : XRep R.mg H c dd x) (hk : x.kind ≠ .mal) : ∃ (a : Addr) (fs : List (Str × V)) (v : V), dd = some a ∧ H a = some (.xd fs) ∧ fs.lookup (ekField x.kind) = some v ∧ ∀ H, Rep R H v x.field := by
  cases x with
  | mal => exact absurd rfl hk
  | ref r =>
    obtain ⟨_, a, fs, h1, h2, h3⟩ := h
    exact ⟨a, fs, _, h1, h2, h3, fun _ => .str r⟩
  | nt r =>
    obtain ⟨_, a, fs, h1, h2, h3⟩ := h
    exact ⟨a, fs, _, h1, h2, h3, fun _ => .int r⟩
theorem kind_name {mg : Str → Option Value} {H : Hp} {c : Value} {dd : Option Addr} {x : Exn} (h : XRep mg H c dd x) : mg (ekName x.kind) = some c := by
  cases x <;> exact h.1
theorem hd_of (Sk : Sok G gi X W) : ∀ {hs : S} {pes : List ExceptHandler}, mH (mxOf G gi X) hs X.env.scope pes = true → ∃ l, HdX X pes l ∧ ∀ (D : Ends) (Z : Addr → Prop) (H0 : Hp) (io : Option (Nat × Addr)) (x : Exn) (σ : Sg) (H : Hp) (env : Loca) (P : Po) (c : Value) (dd : Option Addr),
    G.iop = io.map (·.1) → ER (rcOf G X) Z H0 io σ H env → Lks (rcOf G X) Z H0 io W σ H env P D → XRep X.mg H c dd x → wHnd G hs x env P → wX X.K W D l c dd σ H := by
  intro hs
  induction hs with
  | nil =>
    intro pes h
    cases pes with
    | nil => exact ⟨[], .nil, fun D Z H0 io x σ H env P c dd hi er l xr w => l.ex x σ H env c dd er .refl xr w⟩
    | cons => simp [mH] at h
  | hnd k sl e r ih =>
    intro pes h
    unfold mH at h
    split at h
    · rename_i x np nm tp jj p q qq hs'
      simp only [Bool.and_eq_true, decide_eq_true_eq] at h
      obtain ⟨⟨⟨⟨rfl, hg⟩, hek⟩, hr⟩, hm⟩ := h
      obtain ⟨hg1, hg2⟩ := gl_of hg
      obtain ⟨C, hC, hfld⟩ := Sk.ekc k hek
      obtain ⟨l, hl, hw⟩ := ih hm
      have nms : Names X (ekName k) (.ref C) := ⟨hg1, hg2, .inl hC⟩
      have rest : ∀ {x : Exn} {c : Value} {dd : Option Addr} {H : Hp}, XRep X.mg H c dd x → PySem.W.exmOne X.K c (.ref C) = some (decide (x.kind = k)) := fun {x c dd H} xr => Sk.ekx x.kind k c (.ref C) hek (kind_name xr) hC
      unfold mHr at hr
      split at hr
      · rename_i a b j1 q1 j2 q2
        simp only [decide_eq_true_eq] at hr
        subst hr
        refine ⟨_, .plain nms (suite_two (a := a) (b := a) (fun X => pe_str (x := a)) (fun X => pe_non) (by intro e q z; cases z) (by intro e q z; cases z)) hl, fun D Z H0 io x σ H env P c dd hi er lk xr w => ?_⟩
        unfold wHnd at w
        refine ⟨_, rest xr, fun hb n hn t ht => ?_, fun hb => ?_⟩
        · rw [if_pos (of_decide_eq_true hb).symm] at w
          exact rt_two er lk ht (fun H => .cons (.str a) (.cons .non .nil)) w
        · rw [if_neg fun z => of_decide_eq_false hb z.symm] at w
          exact hw D Z H0 io x σ H env P c dd hi er lk xr w
      · rename_i a b c' d' j1 q1 j2 q2
        simp only [Bool.and_eq_true, decide_eq_true_eq] at hr
        obtain ⟨rfl, rfl⟩ := hr
        refine ⟨_, .plain nms (suite_two (a := a) (b := a) (fun X => pe_str) (fun X => pe_str) (by intro e q z; cases z) (by intro e q z; cases z)) hl, fun D Z H0 io x σ H env P c dd hi er lk xr w => ?_⟩
        unfold wHnd at w
        refine ⟨_, rest xr, fun hb n hn t ht => ?_, fun hb => ?_⟩
        · rw [if_pos (of_decide_eq_true hb).symm] at w
          exact rt_two er lk ht (fun H => .cons (.str _) (.cons (.str _) .nil)) w
        · rw [if_neg fun z => of_decide_eq_false hb z.symm] at w
          exact hw D Z H0 io x σ H env P c dd hi er lk xr w
      · rename_i i a n b j1 q1 m p1 f p2
        simp only [Bool.and_eq_true, decide_eq_true_eq] at hr
        obtain ⟨⟨⟨⟨⟨⟨rfl, hN⟩, rfl⟩, hloc⟩, hvis⟩, rfl⟩, hnm⟩ := hr
        obtain ⟨hX, hfi⟩ := hfld hnm
        refine ⟨_, .named nms hN (loc_of hloc) (suite_fld hX hfi hN hvis) hl, fun D Z H0 io x σ H env P c dd hi er lk xr w => ?_⟩
        unfold wHnd at w
        refine ⟨_, rest xr, fun hb r hr => ?_, fun hb => ?_⟩
        · have hk := (of_decide_eq_true hb)
          rw [if_pos hk.symm] at w
          obtain ⟨hle, _, w⟩ := w
          subst hk
          obtain ⟨d2, fs, v, e1, e2, e3, e4⟩ := kind_field (R := rcOf G X) xr hnm
          have hc : c = .ref C := by
            have := kind_name xr
            rw [hC] at this
            exact (Option.some.inj this).symm
          refine ⟨?_, hc, d2, fs, v, e1, e2, e3, fun t ht => ?_⟩
          · show (σ.set i _)[i]? = _
            have hlen : i < σ.length := by rw [er.len]; exact hle
            rw [List.getElem?_set_self hlen]
          · exact rt_two (D := D) er lk ht (fun H => .cons (.str _) (.cons (e4 H) .nil)) w
        · rw [if_neg fun z => of_decide_eq_false hb z.symm] at w
          exact hw D Z H0 io x σ H env P c dd hi er lk xr w
      · cases hr
    · cases h
  | _ => intro pes h; simp [mH] at h
end
end Pd

/-! Soundness of statements: all of them. -/
namespace Pd
open L2 PyProof.Rows PySem.Spec PySem
section
variable {G : Gx} {gi : Str → Option Int} {X : Cx} {W : WX}
theorem Sok.tr (Sk : Sok G gi X W) {W' : WX} {pn : List (Addr × Obj)} {xe : Value → Shared → Prop} (tk : Takes (X.tr pn xe) W') (po : PassesOwn (model X.prog X.w) X.A X.env xe) : Sok G gi (X.tr pn xe) W' :=
  { nd := Sk.nd, calm := Sk.calm, room := Sk.room, units := Sk.units, tk := tk, bf := Sk.bf, ty := Sk.ty, isi := Sk.isi, rng := Sk.rng, gi := Sk.gi, fns := Sk.fns, po := po, fnt := Sk.fnt, hs := Sk.hs, hf := Sk.hf, mal := Sk.mal, ekc := Sk.ekc, ekx := Sk.ekx }
/-- what is known of a statement's form -/
structure SnS (G : Gx) (gi : Str → Option Int) (s : S) : Prop where
  st : ∀ (X : Cx) (W : WX) (py : Stmt), Sok G gi X W → mS (mxOf G gi X) s X.env.scope py = true → PS X py (tS G X W s)
  ss : ∀ (X : Cx) (W : WX) (py : List Stmt), Sok G gi X W → mB (mxOf G gi X) s X.env.scope py = true → PSs X py (tS G X W s)
theorem s_tr {b hs : S} {body : List Stmt} {h0 : ExceptHandler} {hs' : List ExceptHandler} {pos : Pos} (Sk : Sok G gi X W) (hb : SnS G gi b) (h1 : mB (mxOf G gi X) b X.env.scope body = true) (h2 : mH (mxOf G gi X) hs X.env.scope (h0 :: hs') = true) :
    PS X (.Try body (h0 :: hs') [] [] pos) (tS G X W (.tr b hs)) := by
  obtain ⟨l, hl, hw⟩ := hd_of Sk h2
  refine (ps_tryX (tb := fun W' => tS G X W' b) Sk.hs Sk.hf Sk.nd Sk.tk (fun W' pn xe tk po => hb.ss (X.tr pn xe) W' body (Sk.tr tk po) h1) hl).imp ?_
  rintro D σ H ⟨Z, H0, io, env, P, hi, er, w, lk⟩
  unfold wS at w
  refine ⟨Z, H0, io, env, _, hi, er, w, ⟨lk.nx, lk.bk, lk.ct, lk.rt, fun x σ' H' env' c dd r m xr w' => ?_⟩⟩
  exact hw D Z H0 io x σ' H' env' P c dd hi r (lk.step m) xr w'
theorem set_free {e : E} {it : Expr} (h : mI (mxOf G gi X) e X.env.scope it = true) : ∀ v, foldedSetIterable it X.env v = pure v := fun v => by
  cases it <;> first | rfl | (cases e <;> simp [mI, notSet] at h)
theorem snS : ∀ s : S, SnS G gi s := by
  intro s
  induction s with
  | nil =>
    refine ⟨fun X W py Sk h => by simp [mS] at h, fun X W py Sk h => ?_⟩
    cases py with
    | nil => exact s_nilS
    | cons => simp [mB] at h
  | seq s r h1 h2 =>
    refine ⟨fun X W py Sk h => by simp [mS] at h, fun X W py Sk h => ?_⟩
    cases py with
    | nil => simp [mB] at h
    | cons p ps =>
      simp only [mB, Bool.and_eq_true] at h
      exact s_seqS (h1.st X W p Sk h.1) (h2.ss X W ps Sk h.2)
  | expr e =>
    refine ⟨fun X W py Sk h => ?_, fun X W py Sk h => by simp [mB] at h⟩
    unfold mS at h
    split at h
    · simp only [Bool.and_eq_true] at h
      exact s_expr ((snd e).ex X W _ Sk.toCok h.2) h.1
    · cases h
  | asg i e =>
    refine ⟨fun X W py Sk h => ?_, fun X W py Sk h => by simp [mB] at h⟩
    unfold mS at h
    split at h
    · simp only [Bool.and_eq_true, decide_eq_true_eq, Bool.or_eq_true] at h
      exact s_asg Sk h.1.1.1 h.1.1.2 ((snd e).ex X W _ Sk.toCok h.1.2) h.2
    · cases h
  | asgl i e =>
    refine ⟨fun X W py Sk h => ?_, fun X W py Sk h => by simp [mB] at h⟩
    unfold mS at h
    split at h
    · simp only [Bool.and_eq_true, decide_eq_true_eq] at h
      exact s_asgl Sk h.1.1.1.1 h.1.1.1.2 h.1.1.2 h.1.2 h.2
    · cases h
  | unp is e =>
    refine ⟨fun X W py Sk h => ?_, fun X W py Sk h => by simp [mB] at h⟩
    unfold mS at h
    split at h
    · simp only [Bool.and_eq_true] at h
      exact s_unp Sk h.1.1 h.1.2 ((snd e).ex X W _ Sk.toCok h.2)
    · cases h
  | par is es =>
    refine ⟨fun X W py Sk h => ?_, fun X W py Sk h => by simp [mB] at h⟩
    unfold mS at h
    split at h
    · simp only [Bool.and_eq_true, decide_eq_true_eq] at h
      exact s_par Sk h.1.1.1.1.1 h.1.1.1.1.2 h.1.1.1.2 h.1.1.2 h.1.2 h.2
    · cases h
  | app i e =>
    refine ⟨fun X W py Sk h => ?_, fun X W py Sk h => by simp [mB] at h⟩
    unfold mS at h
    split at h
    · simp only [Bool.and_eq_true, decide_eq_true_eq] at h
      obtain ⟨⟨⟨⟨h1, h2⟩, h3⟩, h4⟩, h5⟩ := h
      subst h3
      exact s_app h1 h2 ((snd e).ex X W _ Sk.toCok h4) (not_star h4) h5
    · cases h
  | seti i a e =>
    refine ⟨fun X W py Sk h => ?_, fun X W py Sk h => by simp [mB] at h⟩
    unfold mS at h
    split at h
    · simp only [Bool.and_eq_true, decide_eq_true_eq] at h
      obtain ⟨⟨⟨h1, h2⟩, h3⟩, h4⟩ := h
      refine s_seti h1 h2 ((snd a).ex X W _ Sk.toCok h3) ((snd e).ex X W _ Sk.toCok h4) ?_
      rename_i k _ v _
      intro v
      cases k <;> first | rfl | (exfalso; cases a <;> simp [mE] at h3)
    · cases h
  | ret e =>
    refine ⟨fun X W py Sk h => ?_, fun X W py Sk h => by simp [mB] at h⟩
    unfold mS at h
    split at h
    · refine s_ret ((snd e).ex X W _ Sk.toCok h) fun i hi => ?_
      subst hi
      unfold mE at h
      split at h
      · simp only [Bool.and_eq_true, decide_eq_true_eq] at h
        exact ⟨_, _, rfl, h.1, h.2⟩
      · cases h
    · cases h
  | retn =>
    refine ⟨fun X W py Sk h => ?_, fun X W py Sk h => by simp [mB] at h⟩
    unfold mS at h
    split at h
    · exact s_retn
    · cases h
  | ife c a b ha hb =>
    refine ⟨fun X W py Sk h => ?_, fun X W py Sk h => by simp [mB] at h⟩
    unfold mS at h
    split at h
    · simp only [Bool.and_eq_true] at h
      exact s_ife ((snd c).ts X W _ Sk.toCok h.1.1) (ha.ss X W _ Sk h.1.2) (hb.ss X W _ Sk h.2)
    · cases h
  | whl c b hb =>
    refine ⟨fun X W py Sk h => ?_, fun X W py Sk h => by simp [mB] at h⟩
    unfold mS at h
    split at h
    · simp only [Bool.and_eq_true] at h
      exact s_whl Sk ((snd c).ts X W _ Sk.toCok h.1) (hb.ss X W _ Sk h.2)
    · cases h
  | for_ is tp it b hb =>
    refine ⟨fun X W py Sk h => ?_, fun X W py Sk h => by simp [mB] at h⟩
    unfold mS at h
    split at h
    · simp only [Bool.and_eq_true] at h
      exact s_for Sk h.1.1 ((snd it).it X W _ _ Sk.toCok h.1.2) (set_free h.1.2) (hb.ss X W _ Sk h.2)
    · cases h
  | brk =>
    refine ⟨fun X W py Sk h => ?_, fun X W py Sk h => by simp [mB] at h⟩
    unfold mS at h
    split at h
    · exact s_brk
    · cases h
  | cnt =>
    refine ⟨fun X W py Sk h => ?_, fun X W py Sk h => by simp [mB] at h⟩
    unfold mS at h
    split at h
    · exact s_cnt
    · cases h
  | rmal m =>
    refine ⟨fun X W py Sk h => ?_, fun X W py Sk h => by simp [mB] at h⟩
    unfold mS at h
    split at h
    · simp only [Bool.and_eq_true, decide_eq_true_eq] at h
      obtain ⟨⟨⟨h1, h2⟩, h3⟩, h4⟩ := h
      subst h1
      exact s_rmal Sk h4 (gl_of h2).1
    · cases h
  | tr b hs hb hhs =>
    refine ⟨fun X W py Sk h => ?_, fun X W py Sk h => by simp [mB] at h⟩
    unfold mS at h
    split at h
    · simp only [Bool.and_eq_true] at h
      exact s_tr Sk hb h.1 h.2
    · cases h
  | hnd => exact ⟨fun X W py Sk h => by simp [mS] at h, fun X W py Sk h => by simp [mB] at h⟩
end
end Pd

/-! Functions: a table of them, each by its short body; all keep what is said of them. -/
namespace Pd
open L2 PyProof.Rows PySem.Spec PySem

def vals (ds : List D) (m : Nat) : Loca := ds.map Cl.val ++ List.replicate m .emp
theorem vals_at {ds : List D} {m i : Nat} {c : Cl} (h : (vals ds m)[i]? = some c) : (∃ d, ds[i]? = some d ∧ c = .val d) ∨ c = .emp := by
  unfold vals at h
  rw [List.getElem?_append] at h
  split at h
  · rw [List.getElem?_map] at h
    cases e : ds[i]? with
    | none => rw [e] at h; cases h
    | some d => rw [e] at h; exact .inl ⟨d, rfl, (Option.some.inj h).symm⟩
  · rw [List.getElem?_replicate] at h
    split at h
    · exact .inr (Option.some.inj h).symm
    · cases h
theorem st_at {vs : List V} {m i : Nat} {v : V} (h : vs[i]? = some v) : (vs.map some ++ List.replicate m (none : Option V))[i]? = some (some v) := by
  have := (List.getElem?_eq_some_iff.mp h).1
  rw [List.getElem?_append_left (by simpa using this), List.getElem?_map, h]
  rfl
section
variable {R : RC} {Z : Addr → Prop} {H : Hp}
theorem er_vals {vs : List V} {ds : List D} {m : Nat} (hz' : ∀ b, Z b → ∃ o, H b = some o) (r : Reps R (hz Z H) vs ds) : ER R Z H none (vs.map some ++ List.replicate m none) H (vals ds m) := by
  have no : ∀ b, ¬ Own (vs.map some ++ List.replicate m none) (vals ds m) b := fun b ⟨i, d, h, _⟩ => by
    rcases vals_at h with ⟨_, _, z⟩ | z <;> cases z
  have see : Same (hz Z H) (hid Z (vs.map some ++ List.replicate m none) (vals ds m) H) := fun b o h => hid_of (hz_some h).1 (no b) (hz_some h).2
  refine ⟨?_, fun i d h => ?_, fun i d h => ?_, fun i j d e a h1 => ?_, fun b o h _ => h, fun a h => (no a h).elim, hz', fun a h => (no a h).elim, fun p a h => by cases h⟩
  · simp [vals, r.length]
  · rcases vals_at h with ⟨e, h1, z⟩ | z
    · cases z
      obtain ⟨v, h2, q⟩ := r.getD h1
      exact ⟨v, st_at h2, q.mono see⟩
    · cases z
  · rcases vals_at h with ⟨_, _, z⟩ | z <;> cases z
  · rcases vals_at h1 with ⟨_, _, z⟩ | z <;> cases z
theorem er_io {vs : List V} {ds : List D} {d0 : D} {a : Addr} {m : Nat} (hz' : ∀ b, Z b → ∃ o, H b = some o) (ha : Z a) (r0 : RepO R H (hz Z H) a d0) (r : Reps R (hz Z H) vs ds) :
    ER R Z H (some (0, a)) ((V.ref a :: vs).map some ++ List.replicate m none) H (.own d0 :: vals ds m) := by
  have ow : ∀ b, Own ((V.ref a :: vs).map some ++ List.replicate m none) (.own d0 :: vals ds m) b → b = a := fun b ⟨i, d, h, h2⟩ => by
    cases i with
    | zero => cases h2; rfl
    | succ i => rcases vals_at h with ⟨_, _, z⟩ | z <;> cases z
  have see : Same (hz Z H) (hid Z ((V.ref a :: vs).map some ++ List.replicate m none) (.own d0 :: vals ds m) H) := fun b o h => hid_of (hz_some h).1 (fun z => (hz_some h).1 (by rw [ow b z]; exact ha)) (hz_some h).2
  refine ⟨?_, fun i d h => ?_, fun i d h => ?_, fun i j d e b h1 h2 => ?_, fun b o h _ => h, fun b h => .inr ⟨0, by rw [ow b h]⟩, hz', fun b h _ => ⟨0, by rw [ow b h]⟩, fun p b h => ?_⟩
  · simp [vals, r.length]
  · cases i with
    | zero => cases h
    | succ i =>
      rcases vals_at h with ⟨e, h1, z⟩ | z
      · cases z
        obtain ⟨v, h2, q⟩ := r.getD h1
        exact ⟨v, st_at (vs := V.ref a :: vs) (i := i + 1) h2, q.mono see⟩
      · cases z
  · cases i with
    | zero =>
      cases h
      exact ⟨a, rfl, r0.mono rfl see⟩
    | succ i => rcases vals_at h with ⟨_, _, z⟩ | z <;> cases z
  · cases i with
    | zero =>
      cases j with
      | zero => intro _ _; rfl
      | succ j => rcases vals_at h2 with ⟨_, _, z⟩ | z <;> cases z
    | succ i => rcases vals_at h1 with ⟨_, _, z⟩ | z <;> cases z
  · cases h
    exact ⟨rfl, d0, rfl⟩
end

/-- a def: its name and text, the names of its slots, its parameters, its short body, what is said of it -/
structure Fd where
  nm : Str
  params : Arguments
  body : List Stmt
  scope : Scope
  N : List Str
  ps : List Str
  b : S
  io : Bool
  fr : Bool
  lv : Nat
  sp : Spec
def botF : Fd := ⟨"", ⟨[], [], none, [], [], none, []⟩, [], ⟨.function, [], false, false, []⟩, [], [], .nil, false, false, 1000000, fun _ _ _ => False⟩
def fdAt (T : List Fd) (n : Nat) : Fd := (T[n]?).getD botF
def tbOf (T : List Fd) (ek : EK → Bool) : Tb := ⟨fun n => (fdAt T n).nm, fun n => (fdAt T n).io, fun n => (fdAt T n).fr, fun n => (fdAt T n).lv, ek⟩
def gxOf (T : List Fd) (ek : EK → Bool) (f : Fd) : Gx := ⟨tbOf T ek, fun m => (fdAt T m).sp, f.lv - 1 + 1, if f.io then some 0 else none⟩
def env0 (f : Fd) (ds : List D) : Loca := if f.io then (match ds with
  | d0 :: ds' => .own d0 :: vals ds' (f.N.length - ds.length)
  | [] => vals [] (f.N.length - ds.length)) else vals ds (f.N.length - ds.length)
def po0 (f : Fd) (P : D → D → Prop) (Ex : Exn → Prop) : Po := if f.io then
    { nx := fun env => ∃ d1, at_ env 0 = .own d1 ∧ P .non d1, rt := fun d _ env => ∃ d1, at_ env 0 = .own d1 ∧ P d d1, bk := fun _ => False, ct := fun _ => False, ex := fun _ _ => False }
  else { nx := fun _ => P .non .non, rt := fun d b _ => (f.fr = true → isMut d = true → b = true) ∧ P d .non, bk := fun _ => False, ct := fun _ => False, ex := fun x _ => Ex x }
/-- what is left to prove of a def -/
def Good (T : List Fd) (ek : EK → Bool) (f : Fd) : Prop := ∀ ds P Ex, f.sp ds P Ex → f.lv ≠ 0 ∧ ds.length = f.ps.length ∧ wS (gxOf T ek f) f.b (env0 f ds) (po0 f P Ex)
/-- level 0: nothing is said -/
def chk (T : List Fd) (ek : EK → Bool) (gi : Str → Option Int) (f : Fd) : Bool := decide (f.lv = 0) || mB ⟨tbOf T ek, f.lv - 1 + 1, f.N, gi⟩ f.b f.scope f.body && C8.scC f.N f.ps f.scope && decide (f.lv ≤ 1000000) && !(f.io && f.fr)
/-- what is known of the written world -/
structure Wok (P : Program) (K : PySem.W.Frag) (mg : Str → Option Value) (T : List Fd) (ek : EK → Bool) (gi : Str → Option Int) : Prop where
  bf : ∀ f, mg (bfName f) = none
  ty : ∀ t, mg (tyName t) = none
  isi : mg "isinstance" = none
  rng : mg "range" = none
  gi : ∀ x i, gi x = some i → ∃ t, mg x = some (.int i t)
  mal : ek .mal = true → ∃ C, mg "Malformed" = some (.ref C) ∧ PySem.W.excIn K C [.type "ValueError", .type "Exception", .type "BaseException", .type "object"] "ValueError.__new__" = true ∧ PySem.W.keepIn K (.ref C) = true ∧
    PySem.W.subIn K (.ref C) (.type "BaseException") = some true ∧ PySem.W.typeIn K (.ref C) = some (.type "type")
  ekc : ∀ k, ek k = true → ∃ C, mg (ekName k) = some (.ref C) ∧ (k ≠ .mal → XfC K C ∧ PySem.W.findIn K (.ref C) (ekField k) = some none)
  ekx : ∀ k k' C C', ek k' = true → mg (ekName k) = some C → mg (ekName k') = some C' → PySem.W.exmOne K C C' = some (decide (k = k'))
  fns : ∀ n, n < T.length → ∃ f fd, mg (fdAt T n).nm = some (.ref f) ∧ FunD K (fdAt T n).nm (fdAt T n).nm (fdAt T n).params (fdAt T n).body (fdAt T n).scope [] [] f fd ∧ Binds K fd (fdAt T n).ps []
section
variable {P : Program} {w : World} {K : PySem.W.Frag} {mg : Str → Option Value} {base : Heap} {T : List Fd} {ek : EK → Bool} {gi : Str → Option Int}
abbrev rcT (K : PySem.W.Frag) (mg : Str → Option Value) (T : List Fd) (ek : EK → Bool) : RC := ⟨K, mg, (tbOf T ek).fnm, fun _ => ("" : Str), fun _ => []⟩
abbrev FdOk (P : Program) (w : World) (K : PySem.W.Frag) (mg : Str → Option Value) (base : Heap) (T : List Fd) (ek : EK → Bool) (f : Fd) (a : Addr) (fd : FuncData) : Prop :=
  FnOk P w K mg base (L2.CX P w) f.lv a fd f.ps (toSp (rcT K mg T ek) f.io f.fr f.sp)
theorem at_zero {c : Cl} {env : Loca} (h : at_ env 0 = c) (hc : c ≠ .emp) : env[0]? = some c := at_some h hc
theorem fd_ok (Wk : Wok P K mg T ek gi) {f : Fd} {a : Addr} {fd : FuncData} (F : FunD K f.nm f.nm f.params f.body f.scope [] [] a fd) (hc : chk T ek gi f = true) (hg : Good T ek f)
    (ih : ∀ n, (fdAt T n).lv < f.lv → ∃ a fd, mg (fdAt T n).nm = some (.ref a) ∧ PySem.W.keepIn K (.ref a) = true ∧ FdOk P w K mg base T ek (fdAt T n) a fd ∧ Binds K fd (fdAt T n).ps []) : FdOk P w K mg base T ek f a fd := by
  by_cases h0 : f.lv = 0
  · exact ⟨fun vs H Q E ⟨Z, ds, Pd, Ex, _, hs, k1, k2⟩ => absurd h0 (hg _ _ _ hs).1, fun A outer s H args us vs Q E _ _ _ _ ⟨Z, ds, Pd, Ex, _, hs, k1, k2⟩ => absurd h0 (hg _ _ _ hs).1⟩
  unfold chk at hc
  simp only [Bool.or_eq_true, Bool.and_eq_true, decide_eq_true_eq, Bool.not_eq_true', Bool.and_eq_false_iff, h0, false_or] at hc
  obtain ⟨⟨⟨hb, hsc⟩, h2⟩, h3⟩ := hc
  have FS := C8.fnScope_by hsc
  have hlv : f.lv = f.lv - 1 + 1 := by omega
  have len : ∀ vs H Q E, toSp (rcT K mg T ek) f.io f.fr f.sp vs H Q E → vs.length = f.ps.length := fun vs H Q E ⟨Z, ds, Pd, Ex, _, hs, k1, k2⟩ => by
    have hl := (hg _ _ _ hs).2.1
    cases e : f.io with
    | false => rw [← hl]; exact (k1 e).1.length
    | true =>
      obtain ⟨a, vs', d0, ds', rfl, rfl, _, _, r, _⟩ := k2 e
      rw [← hl]
      exact congrArg (· + 1) r.length
  have key : FnOk P w K mg base (L2.CX P w) (f.lv - 1 + 1) a fd f.ps (toSp (rcT K mg T ek) f.io f.fr f.sp) := by
    refine F.ok FS len fun cdv A outer s H vs Q E hr hsp => ?_
    have Sk : Sok (gxOf T ek f) gi (cxOf (L2.CX P w) P w K mg base f.N f.nm f.scope a cdv A outer s H E) (fun cls d _ H => E cls d H) :=
      { nd := FS.nd, calm := rfl, room := fun j hj => hr.mono (by have : j < f.lv - 1 + 1 := hj; omega), units := hr.units, tk := takes_of rfl rfl rfl rfl, bf := Wk.bf, ty := Wk.ty, isi := Wk.isi, rng := Wk.rng, gi := Wk.gi,
        fns := fun n hn => by
          obtain ⟨b, fb, q1, q2, q3, q4⟩ := ih n (by have : (fdAt T n).lv < f.lv - 1 + 1 := hn; omega)
          exact ⟨b, fb, _, q1, q2, q3, q4⟩,
        po := passes_of rfl, fnt := fun _ => rfl, hs := rfl, hf := rfl, mal := Wk.mal, ekc := Wk.ekc, ekx := Wk.ekx }
    refine ⟨_, (snS f.b).ss _ _ f.body Sk hb, ?_⟩
    obtain ⟨Z, ds, Pd', Ex, hzo, hs, k1, k2⟩ := hsp
    obtain ⟨_, hl, hw⟩ := hg _ _ _ hs
    have hvl := len vs H Q E ⟨Z, ds, Pd', Ex, hzo, hs, k1, k2⟩
    cases e : f.io with
    | false =>
      obtain ⟨r, kr, kx⟩ := k1 e
      refine ⟨Z, H, none, vals ds (f.N.length - ds.length), po0 f Pd' Ex, by simp [gxOf, e], ?_, ?_, ?_⟩
      · unfold L2.start
        rw [show f.N.length - vs.length = f.N.length - ds.length by rw [r.length]]
        exact er_vals hzo r
      · have : env0 f ds = vals ds (f.N.length - ds.length) := by unfold env0; rw [e]; rfl
        rw [← this]
        exact hw
      · have no : ∀ b, ¬ Own (L2.start f.N vs) (vals ds (f.N.length - ds.length)) b := fun b ⟨i, d, h, _⟩ => by
          rcases vals_at h with ⟨_, _, z⟩ | z <;> cases z
        have same : ∀ {σ' H' env'}, Mono (L2.start f.N vs) H (vals ds (f.N.length - ds.length)) σ' H' env' → Same H H' := fun m b o h => m.keep b o h (no b)
        have hpo : po0 f Pd' Ex = { nx := fun _ => Pd' .non .non, rt := fun d b _ => (f.fr = true → isMut d = true → b = true) ∧ Pd' d .non, bk := fun _ => False, ct := fun _ => False, ex := fun x _ => Ex x } := by unfold po0; rw [e]; rfl
        rw [hpo]
        refine ⟨fun σ' H' env' er m k => ?_, fun σ' H' env' er m k => k.elim, fun σ' H' env' er m k => k.elim, fun σ' H' env' v d b er m rt k => ?_, fun x σ' H' env' c dd er m xr k => kx x c dd H' k (same m) xr⟩
        · exact kr .non .non .non H' k (same m) .non fun _ h => by cases h
        · exact kr d .non v H' k.2 (same m) rt.1 fun q1 q2 => rt.2 (k.1 q1 q2) q2
    | true =>
      obtain ⟨a0, vs', d0, ds', rfl, rfl, hZ, r0, r, kr, kx⟩ := k2 e
      refine ⟨Z, H, some (0, a0), .own d0 :: vals ds' (f.N.length - (d0 :: ds').length), po0 f Pd' Ex, by simp [gxOf, e], ?_, ?_, ?_⟩
      · unfold L2.start
        rw [show f.N.length - (V.ref a0 :: vs').length = f.N.length - (d0 :: ds').length by rw [List.length_cons, List.length_cons, r.length]]
        exact er_io hzo hZ r0 r
      · have : env0 f (d0 :: ds') = .own d0 :: vals ds' (f.N.length - (d0 :: ds').length) := by unfold env0; rw [e]; rfl
        rw [← this]
        exact hw
      · have ow : ∀ b, Own (L2.start f.N (V.ref a0 :: vs')) (.own d0 :: vals ds' (f.N.length - (d0 :: ds').length)) b → b = a0 := fun b ⟨i, d, h, h2⟩ => by
          cases i with
          | zero => cases h2; rfl
          | succ i => rcases vals_at h with ⟨_, _, z⟩ | z <;> cases z
        have keep : ∀ {σ' H' env'}, Mono (L2.start f.N (V.ref a0 :: vs')) H (.own d0 :: vals ds' (f.N.length - (d0 :: ds').length)) σ' H' env' → ∀ b o, b ≠ a0 → H b = some o → H' b = some o := fun m b o hb h => m.keep b o h fun z => hb (ow b z)
        have fin : ∀ {σ' H' env' d v}, ER (rcT K mg T ek) Z H (some (0, a0)) σ' H' env' → Mono (L2.start f.N (V.ref a0 :: vs')) H (.own d0 :: vals ds' (f.N.length - (d0 :: ds').length)) σ' H' env' → Rep (rcT K mg T ek) (hz Z H') v d → (∃ d1, at_ env' 0 = .own d1 ∧ Pd' d d1) → Q v H' := fun {σ' H' env' d v} er m q ⟨d1, e1, k⟩ => by
          obtain ⟨s1, _⟩ := er.ios 0 a0 rfl
          obtain ⟨b, s2, ro⟩ := er.own 0 d1 (at_some e1 (by intro z; cases z))
          rw [s1] at s2
          cases s2
          exact kr d d1 v H' k (keep m) q (ro.mono rfl see_base)
        have hpo : po0 f Pd' Ex = { nx := fun env => ∃ d1, at_ env 0 = .own d1 ∧ Pd' .non d1, rt := fun d _ env => ∃ d1, at_ env 0 = .own d1 ∧ Pd' d d1, bk := fun _ => False, ct := fun _ => False, ex := fun _ _ => False } := by unfold po0; rw [e]; rfl
        rw [hpo]
        exact ⟨fun σ' H' env' er m k => fin er m .non k, fun σ' H' env' er m k => k.elim, fun σ' H' env' er m k => k.elim, fun σ' H' env' v d b er m rt k => fin er m rt.1 k, fun x σ' H' env' c dd er m xr k => k.elim⟩
  rw [← hlv] at key
  exact key
/-- all of them -/
theorem fns_ok (Wk : Wok P K mg T ek gi) (hc : ∀ n, n < T.length → chk T ek gi (fdAt T n) = true) (hg : ∀ n, n < T.length → Good T ek (fdAt T n)) :
    ∀ (k n : Nat), n < T.length → (fdAt T n).lv ≤ k → ∃ a fd, mg (fdAt T n).nm = some (.ref a) ∧ PySem.W.keepIn K (.ref a) = true ∧ FdOk P w K mg base T ek (fdAt T n) a fd ∧ Binds K fd (fdAt T n).ps [] := by
  intro k
  have top : ∀ n, n < T.length → (fdAt T n).lv ≤ 1000000 := fun n hn => by
    have := hc n hn
    unfold chk at this
    simp only [Bool.or_eq_true, Bool.and_eq_true, decide_eq_true_eq] at this
    omega
  have inT : ∀ n m, n < T.length → (fdAt T m).lv < (fdAt T n).lv → m < T.length := fun n m hn hm => by
    by_cases z : m < T.length
    · exact z
    · have : fdAt T m = botF := by
        unfold fdAt
        rw [List.getElem?_eq_none (by omega)]
        rfl
      rw [this] at hm
      have := top n hn
      have : botF.lv = 1000000 := rfl
      omega
  induction k with
  | zero =>
    intro n hn h
    obtain ⟨a, fd, h1, h2, h3⟩ := Wk.fns n hn
    exact ⟨a, fd, h1, h2.kp, fd_ok Wk h2 (hc n hn) (hg n hn) fun m hm => by omega, h3⟩
  | succ k ih =>
    intro n hn h
    obtain ⟨a, fd, h1, h2, h3⟩ := Wk.fns n hn
    have hcn := hc n hn
    refine ⟨a, fd, h1, h2.kp, fd_ok Wk h2 hcn (hg n hn) fun m hm => ?_, h3⟩
    exact ih m (inT n m hn hm) (by omega)
end
end Pd

/-! The end: what the head tells, and a law's promise. -/
namespace Pd
open L2 PyProof.Rows PySem.Spec PySem

def bfAll : List BF := [.len, .abs, .max, .min, .int, .str, .tuple, .list, .sum, .all, .any, .sorted, .bool]
def tyAll : List TyN := [.int, .bool, .str, .tuple, .list]
def ekAll : List EK := [.mal, .ref, .nt]
/-- what a law's text has: its table, its classes of exceptions, its numbers -/
structure Tx where
  T : List Fd
  here : List EK
  eks : List EK
  gis : List (Str × Int)
def Tx.ek (t : Tx) (k : EK) : Bool := t.eks.contains k
def Tx.gi (t : Tx) (x : Str) : Option Int := t.gis.lookup x
def Tx.fa (t : Tx) : List He.Fa := t.T.map (fun f => .glo f.nm) ++ (bfAll.map (fun f => .free (bfName f)) ++ (tyAll.map (fun f => .free (tyName f)) ++ ([.free "isinstance", .free "range"] ++ (t.gis.map (fun p => .int p.1 p.2) ++
  (ekAll.map (fun k => if t.here.contains k then .glo (ekName k) else .free (ekName k)) ++ (t.here.flatMap (fun k => t.eks.map fun k' => .exm (ekName k) (ekName k') (decide (k = k'))) ++ t.eks.map (fun k => if k = .mal then .exc (ekName k) else .noat (ekName k) (ekField k))))))))
def Tx.defs (t : Tx) : List He.DefD := t.T.map fun f => ⟨(f.nm, none), f.nm, f.nm, f.params, f.body, f.scope, [], []⟩
def Tx.ex (t : Tx) (K : PySem.W.Frag) : Bool := t.eks.all fun k => decide (k = .mal) || xfB K (He.ga K (ekName k))
def Tx.ok (t : Tx) : Bool := t.eks.all fun k => t.here.contains k
abbrev Tx.hook (t : Tx) (n : Nat) : PySem.W.Hook := He.hookX n t.fa t.defs [] [] t.ex
def Tx.ob (t : Tx) (n : Nat) (s : PySem.W.SharedT) : He.AlX := He.obsX n t.fa t.defs [] [] t.ex (HandSHeadRun.getT s)
theorem Tx.ob_eq (t : Tx) (n : Nat) (s : PySem.W.SharedT) : t.ob n s = (t.hook n).obs s.abs := He.obsX_eq (HandSHeadRun.getT_eq s)
/-- its arguments are its parameters -/
def BindOk (f : Fd) : Prop := ∀ (kV doc pm : Value) (an : Option Addr) (cdv ct : Value) (us : List Value), us.length = f.ps.length → bindArgs (PySem.W.fnOf f.nm f.nm f.params f.body f.scope .none kV doc pm an cdv ct) ⟨us, []⟩ = pure (f.ps.zip us)
section
variable {P : Program} {w : World} {K : PySem.W.Frag} {mg : Str → Option Value} {base h : Heap} {t : Tx}
theorem mem_bf (f : BF) : f ∈ bfAll := by cases f <;> decide
theorem mem_ty (f : TyN) : f ∈ tyAll := by cases f <;> decide
theorem mem_ek (k : EK) : k ∈ ekAll := by cases k <;> decide
theorem wok_of (X : K.In h) (G : h.Ns mainGlobals mg) (c : He.SaysX t.fa t.defs [] [] t.ex w h K) (hok : t.ok = true) (hb : ∀ f ∈ t.T, BindOk f) : Wok P K mg t.T t.ek t.gi := by
  have fact : ∀ {f : He.Fa}, f ∈ t.fa → f.ok K = true := fun hf => c.t.d.facts hf
  have f1 : ∀ f ∈ t.T, mg f.nm = some (.ref (He.ga K f.nm)) := fun f hf => He.glo_ok X G (fact (List.mem_append_left _ (List.mem_map.mpr ⟨f, hf, rfl⟩)))
  have f2 : ∀ f, mg (bfName f) = none := fun f => He.free_ok X G (fact (List.mem_append_right _ (List.mem_append_left _ (List.mem_map.mpr ⟨f, mem_bf f, rfl⟩))))
  have f3 : ∀ f, mg (tyName f) = none := fun f => He.free_ok X G (fact (List.mem_append_right _ (List.mem_append_right _ (List.mem_append_left _ (List.mem_map.mpr ⟨f, mem_ty f, rfl⟩)))))
  have f4 : ∀ x : He.Fa, x ∈ [He.Fa.free "isinstance", He.Fa.free "range"] → x.ok K = true := fun x hx => fact (List.mem_append_right _ (List.mem_append_right _ (List.mem_append_right _ (List.mem_append_left _ hx))))
  have f5 : ∀ p ∈ t.gis, ∃ u, mg p.1 = some (.int p.2 u) := fun p hp => He.int_ok X G (fact (List.mem_append_right _ (List.mem_append_right _ (List.mem_append_right _ (List.mem_append_right _ (List.mem_append_left _ (List.mem_map.mpr ⟨p, hp, rfl⟩)))))))
  have f6 : ∀ k, (if t.here.contains k then He.Fa.glo (ekName k) else .free (ekName k)).ok K = true := fun k => fact (List.mem_append_right _ (List.mem_append_right _ (List.mem_append_right _ (List.mem_append_right _ (List.mem_append_right _ (List.mem_append_left _ (List.mem_map.mpr ⟨k, mem_ek k, rfl⟩)))))))
  have f7 : ∀ k ∈ t.here, ∀ k' ∈ t.eks, PySem.W.exmOne K (.ref (He.ga K (ekName k))) (.ref (He.ga K (ekName k'))) = some (decide (k = k')) := fun k hk k' hk' => He.exm_ok (fact (List.mem_append_right _ (List.mem_append_right _ (List.mem_append_right _ (List.mem_append_right _ (List.mem_append_right _ (List.mem_append_right _ (List.mem_append_left _
    (List.mem_flatMap.mpr ⟨k, hk, List.mem_map.mpr ⟨k', hk', rfl⟩⟩)))))))))
  have f8 : ∀ k ∈ t.eks, (if k = .mal then He.Fa.exc (ekName k) else .noat (ekName k) (ekField k)).ok K = true := fun k hk => fact (List.mem_append_right _ (List.mem_append_right _ (List.mem_append_right _ (List.mem_append_right _ (List.mem_append_right _ (List.mem_append_right _ (List.mem_append_right _
    (List.mem_map.mpr ⟨k, hk, rfl⟩))))))))
  have here : ∀ k, t.ek k = true → k ∈ t.eks := fun k hk => List.contains_iff_mem.mp hk
  have hin : ∀ k ∈ t.eks, t.here.contains k = true := fun k hk => List.all_eq_true.mp hok k hk
  have gl : ∀ k, t.here.contains k = true → mg (ekName k) = some (.ref (He.ga K (ekName k))) := fun k hk => by
    have := f6 k
    rw [if_pos hk] at this
    exact He.glo_ok X G this
  have fr : ∀ k, ¬ t.here.contains k = true → mg (ekName k) = none := fun k hk => by
    have := f6 k
    rw [if_neg hk] at this
    exact He.free_ok X G this
  refine ⟨f2, f3, He.free_ok X G (f4 _ (by simp)), He.free_ok X G (f4 _ (by simp)), fun x i hx => f5 (x, i) (PySem.mem_of_lookup hx), fun hm => ?_, fun k hk => ?_, fun k k' C C' hk h1 h2 => ?_, fun n hn => ?_⟩
  · have hmem := here _ hm
    have q := f8 _ hmem
    rw [if_pos rfl] at q
    obtain ⟨q1, q2, q3, q4⟩ := He.exc_ok q
    exact ⟨_, gl .mal (hin _ hmem), q1, q2, q3, q4⟩
  · have hmem := here _ hk
    refine ⟨_, gl k (hin _ hmem), fun hne => ?_⟩
    have q := f8 _ hmem
    rw [if_neg hne] at q
    refine ⟨?_, He.eqO_ok q⟩
    have := List.all_eq_true.mp c.more k hmem
    rw [Bool.or_eq_true, decide_eq_true_eq] at this
    exact xfB_ok (this.resolve_left hne)
  · have hmem := here _ hk
    rw [gl k' (hin _ hmem)] at h2
    cases h2
    by_cases z : t.here.contains k = true
    · rw [gl k z] at h1
      cases h1
      exact f7 k (List.contains_iff_mem.mp z) k' hmem
    · rw [fr k z] at h1
      cases h1
  · have hT : fdAt t.T n = t.T[n] := by
      unfold fdAt
      rw [List.getElem?_eq_getElem hn]
      rfl
    have hm : t.T[n] ∈ t.T := List.getElem_mem hn
    rw [hT]
    obtain ⟨fd, F⟩ := c.t.d.defs (d := ⟨(t.T[n].nm, none), t.T[n].nm, t.T[n].nm, t.T[n].params, t.T[n].body, t.T[n].scope, [], []⟩) (List.mem_map.mpr ⟨_, hm, rfl⟩)
    exact ⟨_, fd, f1 _ hm, F, F.bindsN (hb _ hm)⟩
/-- the law's spec: a script of ints -/
def lawSp : Spec := fun ds P _ => ∃ ns : List Int, ns.length ≤ 63 ∧ (∀ z ∈ ns, Builtin.Int.intBits z ≤ 1048576) ∧ ds = [.frz (ns.map D.int)] ∧ P (.bl true) .non
theorem reps_ints {R : RC} {H : Hp} : ∀ ns : List Int, Reps R H (ns.map V.int) (ns.map D.int)
  | [] => .nil
  | n :: ns => .cons (.int n) (reps_ints ns)
theorem law_at {l : PySem.W.OpenLaw} {x : Str} {fa : Addr} {i k : Nat} (X : K.In h) (G : h.Ns mainGlobals mg) (c : He.SaysX t.fa t.defs [] [] t.ex w h K) (hok : t.ok = true) (hb : ∀ f ∈ t.T, BindOk f)
    (hc : ∀ f ∈ t.T, chk t.T t.ek t.gi f = true) (hg : ∀ f ∈ t.T, Good t.T t.ek f) (hi : i < t.T.length) (hsp : t.T[i].sp = lawSp) (hio : t.T[i].io = false) (hfr : t.T[i].fr = false) (hps : t.T[i].ps = [x]) (hlv : t.T[i].lv = k) (hmg : mg t.T[i].nm = some (.ref fa)) :
    LamX.LawAtS l w K (L2.CX l.prog w) k 63 x mg fa h := by
  have Wk : Wok l.prog K mg t.T t.ek t.gi := wok_of X G c hok hb
  have hm : t.T[i] ∈ t.T := List.getElem_mem hi
  have hT : ∀ n (hn : n < t.T.length), fdAt t.T n = t.T[n] := fun n hn => by
    unfold fdAt
    rw [List.getElem?_eq_getElem hn]
    rfl
  obtain ⟨fd, F⟩ := c.t.d.defs (d := ⟨(t.T[i].nm, none), t.T[i].nm, t.T[i].nm, t.T[i].params, t.T[i].body, t.T[i].scope, [], []⟩) (List.mem_map.mpr ⟨_, hm, rfl⟩)
  have bA := F.bindsA (hb _ hm)
  have ega : He.fAd K (t.T[i].nm, none) = fa := by
    have e1 : mg t.T[i].nm = some (.ref (He.ga K t.T[i].nm)) := He.glo_ok X G (c.t.d.facts (List.mem_append_left _ (List.mem_map.mpr ⟨_, hm, rfl⟩)))
    rw [hmg] at e1
    exact (Value.ref.inj (Option.some.inj e1)).symm
  refine ⟨fd, [], toSp (rcT K mg t.T t.ek) false false lawSp, by simp, by simp, by simp, fun s u => ?_, fun H a ns hlen hbits _ hS => ?_, fun base _ _ _ => ?_⟩
  · have := bA s [u] (by rw [hps]; rfl)
    rw [hps] at this
    exact this
  · refine ⟨fun _ => False, [.frz (ns.map D.int)], fun d _ => d = .bl true, fun _ => False, fun b z => z.elim, ⟨ns, hlen, hbits, rfl, rfl⟩, fun _ => ⟨.cons (.frz (show SqL K (hz (fun _ => False) H) a (ns.map V.int) from ?_) (reps_ints ns)) .nil, fun d e v H' hd _ hv _ => ?_, fun x c dd H' z => z.elim⟩, fun z => by cases z⟩
    · have : hz (fun _ => False) H = H := by
        funext b
        unfold hz
        rw [if_neg (fun z => z)]
      rw [this]
      exact hS
    · subst hd
      cases hv
      rfl
  · have key : FdOk l.prog w K mg base t.T t.ek t.T[i] (He.fAd K (t.T[i].nm, none)) fd := fd_ok Wk F (hc _ hm) (hg _ hm) fun n hn => by
      have all := fns_ok (w := w) (base := base) Wk (fun n hn => by rw [hT n hn]; exact hc _ (List.getElem_mem hn)) (fun n hn => by rw [hT n hn]; exact hg _ (List.getElem_mem hn))
      by_cases z : n < t.T.length
      · exact all _ n z (Nat.le_refl _)
      · exfalso
        have : fdAt t.T n = botF := by
          unfold fdAt
          rw [List.getElem?_eq_none (by omega)]
          rfl
        rw [this] at hn
        have h2 := hc _ hm
        unfold chk at h2
        simp only [Bool.or_eq_true, Bool.and_eq_true, decide_eq_true_eq] at h2
        have : botF.lv = 1000000 := rfl
        omega
    unfold FdOk at key
    rw [ega, hsp, hio, hfr, hps, hlv] at key
    exact key
theorem noCX {w : World} {H : Hp} {s s' : Shared} {e : Value} (h : L2.CX P w [] H s (fun _ _ _ => False) e s') : False := by
  obtain ⟨_, _, _, _, _, _, _, _, _, _, _, _, z⟩ := h
  exact z
end
end Pd

/-! Rules to reckon with what is asked: steps, loops. -/
namespace Pd
open L2 PyProof.Rows PySem.Spec PySem

abbrev poV (P : D → D → Prop) (Ex : Exn → Prop) : Po := ⟨fun _ => P .non .non, fun d _ _ => P d .non, fun _ => False, fun _ => False, fun x _ => Ex x⟩
abbrev poF (P : D → D → Prop) (Ex : Exn → Prop) : Po := ⟨fun _ => P .non .non, fun d b _ => (isMut d = true → b = true) ∧ P d .non, fun _ => False, fun _ => False, fun x _ => Ex x⟩
abbrev poI (P : D → D → Prop) : Po := ⟨fun env => ∃ d1, at_ env 0 = .own d1 ∧ P .non d1, fun d _ env => ∃ d1, at_ env 0 = .own d1 ∧ P d d1, fun _ => False, fun _ => False, fun _ _ => False⟩
section
variable {T : List Fd} {ek : EK → Bool} {f : Fd}
theorem goodV (h1 : f.io = false) (h2 : f.fr = false) (h3 : f.lv ≠ 0) (h : ∀ ds P Ex, f.sp ds P Ex → ds.length = f.ps.length ∧ wS (gxOf T ek f) f.b (vals ds (f.N.length - ds.length)) (poV P Ex)) : Good T ek f := fun ds P Ex hs => by
  obtain ⟨a, b⟩ := h ds P Ex hs
  refine ⟨h3, a, ?_⟩
  have e1 : env0 f ds = vals ds (f.N.length - ds.length) := by unfold env0; rw [h1]; rfl
  have e2 : po0 f P Ex = poV P Ex := by
    unfold po0
    rw [h1, h2]
    simp [poV]
  rw [e1, e2]
  exact b
theorem goodF (h1 : f.io = false) (h2 : f.fr = true) (h3 : f.lv ≠ 0) (h : ∀ ds P Ex, f.sp ds P Ex → ds.length = f.ps.length ∧ wS (gxOf T ek f) f.b (vals ds (f.N.length - ds.length)) (poF P Ex)) : Good T ek f := fun ds P Ex hs => by
  obtain ⟨a, b⟩ := h ds P Ex hs
  refine ⟨h3, a, ?_⟩
  have e1 : env0 f ds = vals ds (f.N.length - ds.length) := by unfold env0; rw [h1]; rfl
  have e2 : po0 f P Ex = poF P Ex := by
    unfold po0
    rw [h1, h2]
    simp [poF]
  rw [e1, e2]
  exact b
theorem goodI (h1 : f.io = true) (h3 : f.lv ≠ 0) (h : ∀ ds P Ex, f.sp ds P Ex → ∃ d0 ds', ds = d0 :: ds' ∧ ds.length = f.ps.length ∧ wS (gxOf T ek f) f.b (.own d0 :: vals ds' (f.N.length - ds.length)) (poI P)) : Good T ek f := fun ds P Ex hs => by
  obtain ⟨d0, ds', rfl, a, b⟩ := h ds P Ex hs
  refine ⟨h3, a, ?_⟩
  have e1 : env0 f (d0 :: ds') = .own d0 :: vals ds' (f.N.length - (d0 :: ds').length) := by unfold env0; rw [h1]; rfl
  have e2 : po0 f P Ex = poI P := by
    unfold po0
    rw [h1]
    rfl
  rw [e1, e2]
  exact b
end
section
variable {G : Gx} {env : Loca} {P : Po} {r : S}
theorem st_nil : wS G .nil env P = P.nx env := rfl
theorem st_expr {e : E} : wS G (.seq (.expr e) r) env P = wE G e env (fun _ env1 => wS G r env1 P) P.ex := rfl
theorem st_asg {i : Nat} {e : E} : wS G (.seq (.asg i e) r) env P = wE G e env (fun d env1 => G.iop ≠ some i ∧ wS G r (put env1 i (cellOf G.tb e d)) P) P.ex := rfl
theorem st_asgl {i : Nat} {e : E} : wS G (.seq (.asgl i e) r) env P = wE G e env (fun d env1 => G.iop ≠ some i ∧ wS G r (put env1 i (cellOf G.tb e d)) P) P.ex := rfl
theorem st_unp {is : List Nat} {e : E} : wS G (.seq (.unp is e) r) env P = wE G e env (fun d env1 => (∀ i ∈ is, G.iop ≠ some i) ∧ ∃ ds, d = .tup ds ∧ ds.length = is.length ∧ wS G r (putAll env1 is ds) P) P.ex := rfl
theorem st_par {is : List Nat} {es : E} : wS G (.seq (.par is es) r) env P = wCs G es env (fun cs env1 => (∀ i ∈ is, G.iop ≠ some i) ∧ wS G r (putCs env1 is cs) P) P.ex := rfl
theorem st_app {i : Nat} {e : E} : wS G (.seq (.app i e) r) env P = (isOwnL (at_ env i) = true ∧ wE G e env (fun d env1 => match at_ env1 i with
    | .own (.lst xs) => xs.length < sizeLine ∧ wS G r (put env1 i (.own (.lst (xs ++ [d])))) P
    | _ => False) P.ex) := rfl
theorem st_seti {i : Nat} {a e : E} : wS G (.seq (.seti i a e) r) env P = wE G e env (fun d env1 => isOwnL (at_ env1 i) = true ∧ wE G a env1 (fun j env2 => match at_ env2 i, j with
    | .own (.lst xs), .int k => ∃ n, ixN xs.length k = some n ∧ wS G r (put env2 i (.own (.lst (xs.set n d)))) P
    | _, _ => False) P.ex) P.ex := rfl
theorem st_ret {e : E} : wS G (.seq (.ret e) r) env P = wRet G e env P := by cases e <;> rfl
theorem st_retn : wS G (.seq .retn r) env P = P.rt .non false env := rfl
theorem st_ife {c : E} {a b : S} : wS G (.seq (.ife c a b) r) env P = wT G c env (fun t env1 => if t = true then wS G a env1 ⟨fun env1 => wS G r env1 P, P.rt, P.bk, P.ct, P.ex⟩ else wS G b env1 ⟨fun env1 => wS G r env1 P, P.rt, P.bk, P.ct, P.ex⟩) P.ex := rfl
theorem st_brk : wS G (.seq .brk r) env P = P.bk env := rfl
theorem st_cnt : wS G (.seq .cnt r) env P = P.ct env := rfl
theorem st_rmal {m : Str} : wS G (.seq (.rmal m) r) env P = P.ex .mal env := rfl
theorem st_tr {b hs : S} : wS G (.seq (.tr b hs) r) env P = wS G b env ⟨fun env1 => wS G r env1 P, P.rt, P.bk, P.ct, fun x env1 => wHnd G hs x env1 ⟨fun env1 => wS G r env1 P, P.rt, P.bk, P.ct, P.ex⟩⟩ := rfl
/-- a loop's turns, and what stands behind -/
def forS (G : Gx) (is : List Nat) (tp : Bool) (b r : S) (ds : List D) (env1 : Loca) (P : Po) : Prop := forLoop G.iop (fun d env2 P' => wTgt is tp d env2 fun env3 => wS G b env3 P') ds env1 ⟨fun env1 => wS G r env1 P, P.rt, P.bk, P.ct, P.ex⟩
theorem st_for {is : List Nat} {tp : Bool} {it : E} {b : S} : wS G (.seq (.for_ is tp it b) r) env P = wI G it env (fun ds env1 => (∀ i ∈ is, G.iop ≠ some i) ∧ forS G is tp b r ds env1 P) P.ex := rfl
/-- what stands behind, kept closed -/
def wN (G : Gx) (r : S) (env : Loca) (P : Po) : Prop := wS G r env P
theorem wN_eq : wN G r env P = wS G r env P := rfl
theorem sn_expr {e : E} : wS G (.seq (.expr e) r) env P = wE G e env (fun _ env1 => wN G r env1 P) P.ex := rfl
theorem sn_asg {i : Nat} {e : E} : wS G (.seq (.asg i e) r) env P = wE G e env (fun d env1 => G.iop ≠ some i ∧ wN G r (put env1 i (cellOf G.tb e d)) P) P.ex := rfl
theorem sn_asgl {i : Nat} {e : E} : wS G (.seq (.asgl i e) r) env P = wE G e env (fun d env1 => G.iop ≠ some i ∧ wN G r (put env1 i (cellOf G.tb e d)) P) P.ex := rfl
theorem sn_unp {is : List Nat} {e : E} : wS G (.seq (.unp is e) r) env P = wE G e env (fun d env1 => (∀ i ∈ is, G.iop ≠ some i) ∧ ∃ ds, d = .tup ds ∧ ds.length = is.length ∧ wN G r (putAll env1 is ds) P) P.ex := rfl
theorem sn_par {is : List Nat} {es : E} : wS G (.seq (.par is es) r) env P = wCs G es env (fun cs env1 => (∀ i ∈ is, G.iop ≠ some i) ∧ wN G r (putCs env1 is cs) P) P.ex := rfl
theorem sn_app {i : Nat} {e : E} : wS G (.seq (.app i e) r) env P = (isOwnL (at_ env i) = true ∧ wE G e env (fun d env1 => match at_ env1 i with
    | .own (.lst xs) => xs.length < sizeLine ∧ wN G r (put env1 i (.own (.lst (xs ++ [d])))) P
    | _ => False) P.ex) := rfl
theorem sn_seti {i : Nat} {a e : E} : wS G (.seq (.seti i a e) r) env P = wE G e env (fun d env1 => isOwnL (at_ env1 i) = true ∧ wE G a env1 (fun j env2 => match at_ env2 i, j with
    | .own (.lst xs), .int k => ∃ n, ixN xs.length k = some n ∧ wN G r (put env2 i (.own (.lst (xs.set n d)))) P
    | _, _ => False) P.ex) P.ex := rfl
theorem sn_ife {c : E} {a b : S} : wS G (.seq (.ife c a b) r) env P = wT G c env (fun t env1 => if t = true then wS G a env1 ⟨fun env1 => wN G r env1 P, P.rt, P.bk, P.ct, P.ex⟩ else wS G b env1 ⟨fun env1 => wN G r env1 P, P.rt, P.bk, P.ct, P.ex⟩) P.ex := rfl
theorem sn_tr {b hs : S} : wS G (.seq (.tr b hs) r) env P = wS G b env ⟨fun env1 => wN G r env1 P, P.rt, P.bk, P.ct, fun x env1 => wHnd G hs x env1 ⟨fun env1 => wN G r env1 P, P.rt, P.bk, P.ct, P.ex⟩⟩ := rfl
theorem whl_rule {c : E} {b : S} (I : Nat → Loca → Prop) (h0 : ∃ n env', Weak G.iop env env' ∧ I n env')
    (step : ∀ n env, I n env → wT G c env (fun t env1 => if t = true then wS G b env1 ⟨fun env' => ∃ env'' m, Weak G.iop env' env'' ∧ m < n ∧ I m env'', P.rt, fun env1 => wS G r env1 P, fun env' => ∃ env'' m, Weak G.iop env' env'' ∧ m < n ∧ I m env'', P.ex⟩ else wS G r env1 P) P.ex) :
    wS G (.seq (.whl c b) r) env P := ⟨I, h0, step⟩
theorem for_rule {iop : Option Nat} {turn : D → Loca → Po → Prop} (I : List D → Loca → Prop)
    (step : ∀ d rest env (nx : Loca → Prop), I (d :: rest) env → (∀ env' env'', Weak iop env' env'' → I rest env'' → nx env') → turn d env ⟨nx, P.rt, P.nx, nx, P.ex⟩) (done : ∀ env, I [] env → P.nx env) :
    ∀ (ds : List D) (env : Loca), I ds env → forLoop iop turn ds env P
  | [], env, h => done env h
  | d :: ds, env, h => step d ds env _ h fun env' env'' w i => ⟨env'', w, for_rule I step done ds env'' i⟩
theorem lc_rule {turn : D → Loca → (Option D → Loca → Prop) → Prop} {Q : List D → Loca → Prop} (I : List D → List D → Loca → Prop)
    (step : ∀ d rest acc env (k : Option D → Loca → Prop), I (d :: rest) acc env → (∀ y env', acc.length < sizeLine → I rest (acc ++ [y]) env' → k (some y) env') → (∀ env', I rest acc env' → k none env') → turn d env k) (done : ∀ acc env, I [] acc env → Q acc env) :
    ∀ (ds acc : List D) (env : Loca), I ds acc env → lcLoop turn ds acc env Q
  | [], acc, env, h => done acc env h
  | d :: ds, acc, env, h => step d ds acc env _ h (fun y env' hl i => ⟨hl, lc_rule I step done ds _ env' i⟩) fun env' i => lc_rule I step done ds acc env' i
end
section
variable {G : Gx} {env : Loca} {Q : D → Loca → Prop} {X : Exn → Loca → Prop}
theorem e_var {i : Nat} : wE G (.var i) env Q X = (match at_ env i with
    | .val d => Q d env
    | .own d => G.iop ≠ some i ∧ Q d (put env i (.val d))
    | .emp => False) := rfl
theorem e_int {i : Int} : wE G (.int i) env Q X = (Q (.int i) env) := rfl
theorem e_bl {b : Bool} : wE G (.bl b) env Q X = (Q (.bl b) env) := rfl
theorem e_non  : wE G (.non ) env Q X = (Q .non env) := rfl
theorem e_str {s : Str} : wE G (.str s) env Q X = (Q (.str s) env) := rfl
theorem e_fnv {n : Nat} : wE G (.fnv n) env Q X = (Q (.fn n) env) := rfl
theorem e_gint {y_ : Str} {i : Int} : wE G (.gint y_ i) env Q X = (Q (.int i) env) := rfl
theorem e_bin {o : BO} {a : E} {b : E} : wE G (.bin o a b) env Q X = (pk a (wE G a) env (fun x env1 => pk b (wE G b) env1 (fun y env2 => wBin o (x.rd env2) (y.rd env2) fun d => Q d env2) X) X) := rfl
theorem e_neg {a : E} : wE G (.neg a) env Q X = (wE G a env (fun d env1 => match d with
    | .int i => Q (.int (-i)) env1
    | _ => False) X) := rfl
theorem e_not {a : E} : wE G (.not a) env Q X = (wE G a env (fun d env1 => match d with
    | .bl b => Q (.bl (!b)) env1
    | _ => False) X) := rfl
theorem e_cmp {o : CO} {a : E} {b : E} : wE G (.cmp o a b) env Q X = (pk a (wE G a) env (fun x env1 => pk b (wE G b) env1 (fun y env2 => wCmp o (x.rd env2) (y.rd env2) fun c => Q (.bl c) env2) X) X) := rfl
theorem e_chn {o : CO} {o' : CO} {a : E} {b : E} {c : E} : wE G (.chn o o' a b c) env Q X = (wE G a env (fun x env1 => wE G b env1 (fun y env2 => wCmp o x y fun r => if r = true then wE G c env2 (fun z env3 => wCmp o' y z fun r' => Q (.bl r') env3) X else Q (.bl false) env2) X) X) := rfl
theorem e_isn {a : E} : wE G (.isn a) env Q X = (wE G a env (fun d env1 => Q (.bl (isNonD d)) env1) X) := rfl
theorem e_ntn {a : E} : wE G (.ntn a) env Q X = (wE G a env (fun d env1 => Q (.bl (!isNonD d)) env1) X) := rfl
theorem e_and {es : E} : wE G (.and es) env Q X = (wAnd G es env Q X) := rfl
theorem e_or {es : E} : wE G (.or es) env Q X = (wOr G es env Q X) := rfl
theorem e_ite {c : E} {a : E} {b : E} : wE G (.ite c a b) env Q X = (wT G c env (fun t env1 => if t = true then wE G a env1 Q X else wE G b env1 Q X) X) := rfl
theorem e_tup {es : E} : wE G (.tup es) env Q X = (wA G es env (fun ds env1 => Q (.tup ds) env1) X) := rfl
theorem e_lst {es : E} : wE G (.lst es) env Q X = (wA G es env (fun ds env1 => Q (.lst ds) env1) X) := rfl
theorem e_call {n : Nat} {es : E} : wE G (.call n es) env Q X = (wA G es env (fun ds env1 => G.sp n ds (fun d _ => Q d env1) fun x => X x env1) X) := rfl
theorem e_cio {n : Nat} {i : Nat} {es : E} : wE G (.cio n i es) env Q X = (isOwn (at_ env i) = true ∧ wA G es env (fun ds env1 => match at_ env1 i with
    | .own d0 => G.sp n (d0 :: ds) (fun d d1 => Q d (put env1 i (.own d1))) fun _ => False
    | _ => False) X) := rfl
theorem e_clv {i : Nat} {es : E} : wE G (.clv i es) env Q X = (∃ n, at_ env i = .val (.fn n) ∧ G.tb.lv n < G.k ∧ G.tb.io n = false ∧ wA G es env (fun ds env1 => G.sp n ds (fun d _ => Q d env1) fun x => X x env1) X) := rfl
theorem e_blt {f : BF} {es : E} : wE G (.blt f es) env Q X = (wP G es env (fun xs env1 => wBlt f (xs.map fun x => x.rd env1) fun d => Q d env1) X) := rfl
theorem e_isi {a : E} {T : TyN} : wE G (.isi a T) env Q X = (pk a (wE G a) env (fun x env1 => hasTy (x.rd env1) = true ∧ Q (.bl (tyIs (x.rd env1) T)) env1) X) := rfl
theorem e_ix {a : E} {b : E} : wE G (.ix a b) env Q X = (pk a (wE G a) env (fun x env1 => wE G b env1 (fun y env2 => wIx (x.rd env2) y fun d => Q d env2) X) X) := rfl
theorem e_slc {a : E} {lo : E} {hi : E} : wE G (.slc a lo hi) env Q X = (pk a (wE G a) env (fun x env1 => wA G lo env1 (fun l env2 => wOpt l fun i => wA G hi env2 (fun h env3 => wOpt h fun j => wSlc (x.rd env3) i j fun d => Q d env3) X) X) X) := rfl
theorem e_rev {a : E} : wE G (.rev a) env Q X = (pk a (wE G a) env (fun x env1 => match x.rd env1 with
    | .lst xs => Q (.lst xs.reverse) env1
    | .frz xs => Q (.lst xs.reverse) env1
    | _ => False) X) := rfl
theorem e_lrng {es : E} : wE G (.lrng es) env Q X = (wA G es env (fun ds env1 => ∃ p, rngE ds = some p ∧ RgOk p.1 p.2 ∧ Q (.lst (rngD p.1 p.2)) env1) X) := rfl
/-- a comprehension's turns -/
def lcS (G : Gx) (is : List Nat) (tp : Bool) (c elt : E) (ds : List D) (env1 : Loca) (Q : D → Loca → Prop) : Prop :=
  lcLoop (fun d envt k => wTgt is tp d (wipeC envt is) fun env2 =>
        wC G c env2 fun r env3 => if r = true then wE G elt env3 (fun y env4 => k (some y) env4) (fun _ _ => False) else k none env3) ds [] env1
        fun out envf => Q (.lst out) (backC env1 (wipeC envf is) is)
theorem e_lc {is : List Nat} {tp : Bool} {it : E} {c : E} {elt : E} : wE G (.lc is tp it c elt) env Q X = (wI G it env (fun ds env1 => (∀ i ∈ is, ∀ d, at_ env1 i ≠ .own d) ∧ (∀ i ∈ is, G.iop ≠ some i) ∧ lcS G is tp c elt ds env1 Q) X) := rfl
theorem e_met {m : MF} {o : E} {es : E} : wE G (.met m o es) env Q X = (wE G o env (fun d env1 => wP G es env1 (fun xs env2 => wMet m d (xs.map fun x => x.rd env2) fun d => Q d env2) X) X) := rfl
end
section
variable {i j n : Int} {k : D → Prop} {kb : Bool → Prop} {ko : Option Int → Prop} {x y : Str} {xs ys : List D} {d e : D} {b : Bool} {lo hi : Option Int}
theorem bin_add : wBin .add (.int i) (.int j) k = k (.int (i + j)) := rfl
theorem bin_sub : wBin .sub (.int i) (.int j) k = k (.int (i - j)) := rfl
theorem bin_mul : wBin .mul (.int i) (.int j) k = (MulOk i j ∧ k (.int (i * j))) := rfl
theorem bin_fdiv : wBin .fdiv (.int i) (.int j) k = (DivOk i j ∧ k (.int (i.fdiv j))) := rfl
theorem bin_mod : wBin .mod (.int i) (.int j) k = (j ≠ 0 ∧ k (.int (i.fmod j))) := rfl
theorem bin_adds : wBin .add (.str x) (.str y) k = (x.length + y.length ≤ sizeLine ∧ k (.str (x ++ y))) := rfl
theorem bin_addt : wBin .add (.tup xs) (.tup ys) k = (xs.length + ys.length ≤ sizeLine ∧ k (.tup (xs ++ ys))) := rfl
theorem bin_addl : wBin .add (.lst xs) (.lst ys) k = (xs.length + ys.length ≤ sizeLine ∧ k (.lst (xs ++ ys))) := rfl
theorem bin_mull : wBin .mul (.lst xs) (.int n) k = (-(2 ^ 63) ≤ n ∧ n < 2 ^ 63 ∧ xs.length * n.toNat ≤ sizeLine ∧ k (.lst (List.replicate n.toNat xs).flatten)) := rfl
theorem bin_mult : wBin .mul (.tup xs) (.int n) k = (xs ≠ [] ∧ 2 ≤ n ∧ n ≤ 1000 ∧ xs.length ≤ 1000 ∧ k (.tup (List.replicate n.toNat xs).flatten)) := rfl
theorem cmp_lt : wCmp .lt (.int i) (.int j) kb = kb (decide (i < j)) := rfl
theorem cmp_le : wCmp .le (.int i) (.int j) kb = kb (decide (i ≤ j)) := rfl
theorem cmp_gt : wCmp .gt (.int i) (.int j) kb = kb (decide (j < i)) := rfl
theorem cmp_ge : wCmp .ge (.int i) (.int j) kb = kb (decide (j ≤ i)) := rfl
theorem cmp_eqi : wCmp .eq (.int i) (.int j) kb = kb (decide (i = j)) := propext ⟨fun h => h.2, fun h => ⟨.inl ⟨rfl, rfl⟩, h⟩⟩
theorem cmp_nei : wCmp .ne (.int i) (.int j) kb = kb (!decide (i = j)) := propext ⟨fun h => h.2, fun h => ⟨.inl ⟨rfl, rfl⟩, h⟩⟩
theorem cmp_eqb {b c : Bool} : wCmp .eq (.bl b) (.bl c) kb = kb (b == c) := propext ⟨fun h => h.2, fun h => ⟨.inl ⟨rfl, rfl⟩, h⟩⟩
theorem cmp_eqs : wCmp .eq (.str x) (.str y) kb = kb (x == y) := propext ⟨fun h => h.2, fun h => ⟨.inl ⟨rfl, rfl⟩, h⟩⟩
theorem tru_bl : wTru (.bl b) kb = kb b := rfl
theorem tru_int : wTru (.int i) kb = kb (i != 0) := rfl
theorem tru_non : wTru .non kb = kb false := rfl
theorem tru_tup : wTru (.tup xs) kb = kb (!xs.isEmpty) := rfl
theorem tru_lst : wTru (.lst xs) kb = kb (!xs.isEmpty) := rfl
theorem tru_frz : wTru (.frz xs) kb = kb (!xs.isEmpty) := rfl
theorem ix_tup : wIx (.tup xs) (.int i) k = (∃ d, atI xs i = some d ∧ k d) := rfl
theorem len_tup : wBlt .len [.tup xs] k = k (.int xs.length) := rfl
theorem tpl_tup : wBlt .tuple [.tup xs] k = k (.tup xs) := rfl
theorem lsl_tup : wBlt .list [.tup xs] k = k (.lst xs) := rfl
theorem slc_tup : wSlc (.tup xs) lo hi k = k (.tup (cutD xs lo hi)) := rfl
theorem seq_tup : seqD (.tup xs) = some xs := rfl
theorem ix_lst : wIx (.lst xs) (.int i) k = (∃ d, atI xs i = some d ∧ k d) := rfl
theorem len_lst : wBlt .len [.lst xs] k = k (.int xs.length) := rfl
theorem tpl_lst : wBlt .tuple [.lst xs] k = k (.tup xs) := rfl
theorem lsl_lst : wBlt .list [.lst xs] k = k (.lst xs) := rfl
theorem slc_lst : wSlc (.lst xs) lo hi k = k (.lst (cutD xs lo hi)) := rfl
theorem seq_lst : seqD (.lst xs) = some xs := rfl
theorem ix_frz : wIx (.frz xs) (.int i) k = (∃ d, atI xs i = some d ∧ k d) := rfl
theorem len_frz : wBlt .len [.frz xs] k = k (.int xs.length) := rfl
theorem tpl_frz : wBlt .tuple [.frz xs] k = k (.tup xs) := rfl
theorem lsl_frz : wBlt .list [.frz xs] k = k (.lst xs) := rfl
theorem slc_frz : wSlc (.frz xs) lo hi k = k (.lst (cutD xs lo hi)) := rfl
theorem seq_frz : seqD (.frz xs) = some xs := rfl
theorem len_str : wBlt .len [.str x] k = (x.length ≤ sizeLine ∧ k (.int x.length)) := rfl
theorem blt_abs : wBlt .abs [.int i] k = k (.int (if i < 0 then -i else i)) := rfl
theorem blt_int : wBlt .int [.int i] k = k (.int i) := rfl
theorem blt_intb : wBlt .int [.bl b] k = k (.int (if b then 1 else 0)) := rfl
theorem blt_max : wBlt .max [.int i, .int j] k = k (.int (if j > i then j else i)) := rfl
theorem blt_min : wBlt .min [.int i, .int j] k = k (.int (if j < i then j else i)) := rfl
theorem blt_str : wBlt .str [.int i] k = (i.natAbs.log2 < 1920 ∧ k (.str (toString i))) := rfl
theorem blt_all : wBlt .all [.lst xs] k = (∃ bs, blsD xs = some bs ∧ k (.bl (bs.all id))) := rfl
theorem blt_any : wBlt .any [.lst xs] k = (∃ bs, blsD xs = some bs ∧ k (.bl (bs.any id))) := rfl
theorem blt_sum : wBlt .sum [.lst xs] k = (∃ ns, intsD xs = some ns ∧ k (.int ns.sum)) := rfl
theorem opt_0 : wOpt [] ko = ko none := rfl
theorem opt_1 : wOpt [.int i] ko = ko (some i) := rfl
theorem rng_1 : rngE [.int n] = some (0, n) := rfl
theorem rng_2 : rngE [.int i, .int j] = some (i, j) := rfl
theorem atI_0 {l : List D} : atI (d :: l) 0 = some d := atI_nat (j := 0) rfl
theorem atI_1 {l : List D} {d0 : D} : atI (d0 :: d :: l) 1 = some d := atI_nat (j := 1) rfl
theorem atI_2 {l : List D} {d0 d1 : D} : atI (d0 :: d1 :: d :: l) 2 = some d := atI_nat (j := 2) rfl
theorem atI_3 {l : List D} {d0 d1 d2 : D} : atI (d0 :: d1 :: d2 :: d :: l) 3 = some d := atI_nat (j := 3) rfl
theorem atI_4 {l : List D} {d0 d1 d2 d3 : D} : atI (d0 :: d1 :: d2 :: d3 :: d :: l) 4 = some d := atI_nat (j := 4) rfl
theorem ixN_20 : ixN 2 0 = some 0 := rfl
theorem ixN_21 : ixN 2 1 = some 1 := rfl
theorem ty_bl_int (b : Bool) : tyIs (.bl b) .int = true := rfl
theorem ty_bl_bool (b : Bool) : tyIs (.bl b) .bool = true := rfl
theorem ty_bl_str (b : Bool) : tyIs (.bl b) .str = false := rfl
theorem ty_bl_tuple (b : Bool) : tyIs (.bl b) .tuple = false := rfl
theorem ty_bl_list (b : Bool) : tyIs (.bl b) .list = false := rfl
theorem ht_bl (b : Bool) : hasTy (.bl b) = true := rfl
theorem nn_bl (b : Bool) : isNonD (.bl b) = false := rfl
theorem mu_bl (b : Bool) : isMut (.bl b) = false := rfl
theorem ty_int_int (i : Int) : tyIs (.int i) .int = true := rfl
theorem ty_int_bool (i : Int) : tyIs (.int i) .bool = false := rfl
theorem ty_int_str (i : Int) : tyIs (.int i) .str = false := rfl
theorem ty_int_tuple (i : Int) : tyIs (.int i) .tuple = false := rfl
theorem ty_int_list (i : Int) : tyIs (.int i) .list = false := rfl
theorem ht_int (i : Int) : hasTy (.int i) = true := rfl
theorem nn_int (i : Int) : isNonD (.int i) = false := rfl
theorem mu_int (i : Int) : isMut (.int i) = false := rfl
theorem ty_str_int (x : Str) : tyIs (.str x) .int = false := rfl
theorem ty_str_bool (x : Str) : tyIs (.str x) .bool = false := rfl
theorem ty_str_str (x : Str) : tyIs (.str x) .str = true := rfl
theorem ty_str_tuple (x : Str) : tyIs (.str x) .tuple = false := rfl
theorem ty_str_list (x : Str) : tyIs (.str x) .list = false := rfl
theorem ht_str (x : Str) : hasTy (.str x) = true := rfl
theorem nn_str (x : Str) : isNonD (.str x) = false := rfl
theorem mu_str (x : Str) : isMut (.str x) = false := rfl
theorem ty_tup_int (xs : List D) : tyIs (.tup xs) .int = false := rfl
theorem ty_tup_bool (xs : List D) : tyIs (.tup xs) .bool = false := rfl
theorem ty_tup_str (xs : List D) : tyIs (.tup xs) .str = false := rfl
theorem ty_tup_tuple (xs : List D) : tyIs (.tup xs) .tuple = true := rfl
theorem ty_tup_list (xs : List D) : tyIs (.tup xs) .list = false := rfl
theorem ht_tup (xs : List D) : hasTy (.tup xs) = true := rfl
theorem nn_tup (xs : List D) : isNonD (.tup xs) = false := rfl
theorem mu_tup (xs : List D) : isMut (.tup xs) = false := rfl
theorem ty_lst_int (xs : List D) : tyIs (.lst xs) .int = false := rfl
theorem ty_lst_bool (xs : List D) : tyIs (.lst xs) .bool = false := rfl
theorem ty_lst_str (xs : List D) : tyIs (.lst xs) .str = false := rfl
theorem ty_lst_tuple (xs : List D) : tyIs (.lst xs) .tuple = false := rfl
theorem ty_lst_list (xs : List D) : tyIs (.lst xs) .list = true := rfl
theorem ht_lst (xs : List D) : hasTy (.lst xs) = true := rfl
theorem nn_lst (xs : List D) : isNonD (.lst xs) = false := rfl
theorem mu_lst (xs : List D) : isMut (.lst xs) = true := rfl
theorem ty_frz_int (xs : List D) : tyIs (.frz xs) .int = false := rfl
theorem ty_frz_bool (xs : List D) : tyIs (.frz xs) .bool = false := rfl
theorem ty_frz_str (xs : List D) : tyIs (.frz xs) .str = false := rfl
theorem ty_frz_tuple (xs : List D) : tyIs (.frz xs) .tuple = false := rfl
theorem ty_frz_list (xs : List D) : tyIs (.frz xs) .list = true := rfl
theorem ht_frz (xs : List D) : hasTy (.frz xs) = false := rfl
theorem nn_frz (xs : List D) : isNonD (.frz xs) = false := rfl
theorem mu_frz (xs : List D) : isMut (.frz xs) = false := rfl
theorem ty_non_int  : tyIs (.non : D) .int = false := rfl
theorem ty_non_bool  : tyIs (.non : D) .bool = false := rfl
theorem ty_non_str  : tyIs (.non : D) .str = false := rfl
theorem ty_non_tuple  : tyIs (.non : D) .tuple = false := rfl
theorem ty_non_list  : tyIs (.non : D) .list = false := rfl
theorem ht_non  : hasTy (.non : D) = true := rfl
theorem nn_non  : isNonD (.non : D) = true := rfl
theorem mu_non  : isMut (.non : D) = false := rfl
end
theorem wk_nil : Weak none [] [] := ⟨rfl, fun i c c' h => by simp at h⟩
theorem wk_cons {c c' : Cl} {l l' : Loca} (h : WkC c c') (w : Weak none l l') : Weak none (c :: l) (c' :: l') := by
  refine ⟨congrArg (· + 1) w.1, fun i a a' h1 h2 => ?_⟩
  cases i with
  | zero =>
    cases h1; cases h2
    exact ⟨h, fun z => by cases z⟩
  | succ i => exact ⟨(w.2 i a a' h1 h2).1, fun z => by cases z⟩
theorem wk_io {c : Cl} {l l' : Loca} (w : Weak none l l') : Weak (some 0) (c :: l) (c :: l') := by
  refine ⟨congrArg (· + 1) w.1, fun i a a' h1 h2 => ?_⟩
  cases i with
  | zero =>
    cases h1; cases h2
    exact ⟨.refl c, fun _ => rfl⟩
  | succ i => exact ⟨(w.2 i a a' h1 h2).1, fun z => by cases z⟩
/-- a loop over a list, by places -/
theorem list_rule {iop : Option Nat} {turn : D → Loca → Po → Prop} {P : Po} {ds : List D} {env : Loca} (I : Nat → Loca → Prop) (h0 : I 0 env)
    (step : ∀ i d env (nx : Loca → Prop), ds[i]? = some d → I i env → (∀ env' env'', Weak iop env' env'' → I (i + 1) env'' → nx env') → turn d env ⟨nx, P.rt, P.nx, nx, P.ex⟩) (done : ∀ env, I ds.length env → P.nx env) : forLoop iop turn ds env P := by
  refine for_rule (fun rest e => ∃ i, i + rest.length = ds.length ∧ rest = ds.drop i ∧ I i e) ?_ ?_ ds env ⟨0, by omega, rfl, h0⟩
  · rintro d rest e nx ⟨i, h1, h2, h3⟩ hn
    have hd : ds[i]? = some d := by
      have := congrArg (fun l => l[0]?) h2
      simpa using this.symm
    refine step i d e nx hd h3 fun e' e'' w k => hn e' e'' w ⟨i + 1, by simp only [List.length_cons] at h1; omega, ?_, k⟩
    have := congrArg List.tail h2
    simpa using this
  · rintro e ⟨i, h1, _, h3⟩
    have : i = ds.length := by simpa using h1
    subst this
    exact done e h3
theorem rng_at {lo hi : Int} {i : Nat} {d : D} (h : (rngD lo hi)[i]? = some d) : i < (hi - lo).toNat ∧ d = .int (lo + i) := by
  unfold rngD at h
  rw [List.getElem?_map] at h
  by_cases hi' : i < (hi - lo).toNat
  · rw [List.getElem?_range hi'] at h
    exact ⟨hi', (Option.some.inj h).symm⟩
  · rw [List.getElem?_eq_none (by simpa using Nat.le_of_not_lt hi')] at h
    cases h
theorem rng_len {lo hi : Int} : (rngD lo hi).length = (hi - lo).toNat := by simp [rngD]
theorem rng_rule {iop : Option Nat} {turn : D → Loca → Po → Prop} {P : Po} {lo hi : Int} {env : Loca} (I : Nat → Loca → Prop) (h0 : I 0 env)
    (step : ∀ (i : Nat) env (nx : Loca → Prop), i < (hi - lo).toNat → I i env → (∀ env' env'', Weak iop env' env'' → I (i + 1) env'' → nx env') → turn (.int (lo + i)) env ⟨nx, P.rt, P.nx, nx, P.ex⟩) (done : ∀ env, I (hi - lo).toNat env → P.nx env) : forLoop iop turn (rngD lo hi) env P := by
  refine list_rule I h0 (fun i d e nx hd hi' hn => ?_) fun e h => done e (by rw [rng_len] at h; exact h)
  obtain ⟨h1, rfl⟩ := rng_at hd
  exact step i e nx h1 hi' hn
/-- a comprehension without a test, by places: what it gives is told of each -/
theorem lcm_rule {turn : D → Loca → (Option D → Loca → Prop) → Prop} {Q : List D → Loca → Prop} {ds : List D} {env : Loca} (I : Nat → List D → Loca → Prop) (h0 : I 0 [] env) (hl : ds.length ≤ sizeLine) (hI : ∀ i acc env, I i acc env → acc.length = i)
    (step : ∀ i d acc env (k : Option D → Loca → Prop), ds[i]? = some d → I i acc env → (∀ y env', I (i + 1) (acc ++ [y]) env' → k (some y) env') → turn d env k) (done : ∀ acc env, I ds.length acc env → Q acc env) : lcLoop turn ds [] env Q := by
  refine lc_rule (fun rest acc e => ∃ i, i + rest.length = ds.length ∧ rest = ds.drop i ∧ I i acc e) ?_ ?_ ds [] env ⟨0, by omega, rfl, h0⟩
  · rintro d rest acc e k ⟨i, h1, h2, h3⟩ hs hn
    have hd : ds[i]? = some d := by
      have := congrArg (fun l => l[0]?) h2
      simpa using this.symm
    have hlt := (List.getElem?_eq_some_iff.mp hd).1
    refine step i d acc e k hd h3 fun y e' q => hs y e' (by rw [hI _ _ _ h3]; omega) ⟨i + 1, by simp only [List.length_cons] at h1; omega, ?_, q⟩
    have := congrArg List.tail h2
    simpa using this
  · rintro acc e ⟨i, h1, _, h3⟩
    have : i = ds.length := by simpa using h1
    subst this
    exact done acc e h3
theorem cut_to {xs : List D} {j : Int} (h : 0 ≤ j) : cutD xs none (some j) = xs.take j.toNat := by
  unfold cutD HT.sIx
  dsimp only
  rw [if_neg (by omega), List.drop_zero, Nat.sub_zero]
  by_cases z : j.toNat ≤ xs.length
  · rw [Nat.min_eq_left z]
  · rw [Nat.min_eq_right (by omega), List.take_length, List.take_of_length_le (by omega)]
theorem cut_from {xs : List D} {j : Int} (h : 0 ≤ j) : cutD xs (some j) none = xs.drop j.toNat := by
  unfold cutD HT.sIx
  dsimp only
  rw [if_neg (by omega)]
  by_cases z : j.toNat ≤ xs.length
  · rw [Nat.min_eq_left z, List.take_of_length_le (by rw [List.length_drop]; omega)]
  · rw [Nat.min_eq_right (by omega), List.drop_length, List.drop_of_length_le (by omega), List.take_nil]
theorem divOk {i j : Int} (h : 0 < j) (h2 : j < 1073741824) : DivOk i j := .inl ⟨by omega, by omega⟩
theorem divOkW {i j : Int} (h : 0 < j) (h2 : j.natAbs.log2 < 9000) : DivOk i j := .inr ⟨h, h2⟩
theorem mulL {i j : Int} (h : -18446744073709551616 < i) (h2 : i < 18446744073709551616) : MulOk i j := .inl (.inl ⟨by omega, by omega⟩)
theorem mulR {i j : Int} (h : -18446744073709551616 < j) (h2 : j < 18446744073709551616) : MulOk i j := .inl (.inr ⟨by omega, by omega⟩)
section
variable {G : Gx} {P : Po} {is : List Nat} {tp : Bool} {b r : S}
theorem forS_rule {ds : List D} {env : Loca} (I : Nat → Loca → Prop) (h0 : I 0 env)
    (step : ∀ i d env (nx : Loca → Prop), ds[i]? = some d → I i env → (∀ env' env'', Weak G.iop env' env'' → I (i + 1) env'' → nx env') → wTgt is tp d env fun env3 => wS G b env3 ⟨nx, P.rt, fun env1 => wS G r env1 P, nx, P.ex⟩) (done : ∀ env, I ds.length env → wS G r env P) : forS G is tp b r ds env P :=
  list_rule I h0 step done
theorem forR_rule {lo hi : Int} {env : Loca} (I : Nat → Loca → Prop) (h0 : I 0 env)
    (step : ∀ (i : Nat) env (nx : Loca → Prop), i < (hi - lo).toNat → I i env → (∀ env' env'', Weak G.iop env' env'' → I (i + 1) env'' → nx env') → wTgt is tp (.int (lo + i)) env fun env3 => wS G b env3 ⟨nx, P.rt, fun env1 => wS G r env1 P, nx, P.ex⟩) (done : ∀ env, I (hi - lo).toNat env → wS G r env P) :
    forS G is tp b r (rngD lo hi) env P := rng_rule I h0 step done
theorem lcS_rule {c elt : E} {ds : List D} {env : Loca} {Q : D → Loca → Prop} (I : Nat → List D → Loca → Prop) (h0 : I 0 [] env) (hl : ds.length ≤ sizeLine) (hI : ∀ i acc env, I i acc env → acc.length = i)
    (step : ∀ i d acc env (k : D → Loca → Prop), ds[i]? = some d → I i acc env → (∀ y env', I (i + 1) (acc ++ [y]) env' → k y env') → wTgt is tp d (wipeC env is) fun env2 => wE G elt env2 k fun _ _ => False) (done : ∀ acc env', I ds.length acc env' → Q (.lst acc) (backC env (wipeC env' is) is)) (hc : c = .nil := by rfl) : lcS G is tp c elt ds env Q := by
  subst hc
  refine lcm_rule I h0 hl hI (fun i d acc e k hd h hk => ?_) done
  have := step i d acc e (fun y e' => k (some y) e') hd h hk
  simpa only [wC, if_true] using this
end
theorem cmp_eq {d e : D} {kb : Bool → Prop} : wCmp .eq d e kb = (((sclD d = true ∧ sclD e = true) ∨ (EqOk d ∧ EqOk e)) ∧ kb (eqD d e)) := rfl
theorem cmp_ne {d e : D} {kb : Bool → Prop} : wCmp .ne d e kb = (((sclD d = true ∧ sclD e = true) ∨ (EqOk d ∧ EqOk e)) ∧ kb (!eqD d e)) := rfl
theorem bls_rep (n : Nat) (b : Bool) : blsD (List.replicate n (.bl b)) = some (List.replicate n b) := by
  induction n with
  | zero => rfl
  | succ n ih =>
    rw [List.replicate_succ, List.replicate_succ]
    show (blsD (List.replicate n (.bl b))).map (b :: ·) = _
    rw [ih]
    rfl
end Pd

/-! k41: what is said of each def. -/
namespace Pd.K41
open L2 PyProof.Rows PySem.Spec PySem
def cnt (d : D) (lo hi : Int) : Bool := match d with
  | .int i => decide (lo ≤ i) && decide (i ≤ hi)
  | _ => false
def isI (d : D) : Bool := match d with
  | .int _ => true
  | _ => false
/-- the place of the last one left, from 0, of n + 1 people -/
def pl (q : Int) : Nat → Int
  | 0 => 0
  | n + 1 => (pl q n + q).fmod (n + 2)
def maxN : Int := 1000000000000000000000000000000
def sp_is_integer : Spec := fun ds P _ => ∃ d, ds = [d] ∧ hasTy d = true ∧ P (.bl (isI d)) .non
def sp_is_count : Spec := fun ds P _ => ∃ (d : D) (lo hi : Int), ds = [d, .int lo, .int hi] ∧ hasTy d = true ∧ P (.bl (cnt d lo hi)) .non
def sp_check_count : Spec := fun ds P Ex => ∃ (d : D) (lo hi : Int), ds = [d, .int lo, .int hi] ∧ hasTy d = true ∧ (cnt d lo hi = true → P .non .non) ∧ (cnt d lo hi = false → Ex .mal)
/-- of two counts: the place of the last one left -/
def spLeft (hi : Int) : Spec := fun ds P Ex => ∃ d e, ds = [d, e] ∧ hasTy d = true ∧ hasTy e = true ∧ ((cnt d 1 hi && cnt e 2 40) = false → Ex .mal) ∧
  ∀ n q : Int, d = .int n → e = .int q → 1 ≤ n → n ≤ hi → 2 ≤ q → q ≤ 40 → P (.int (pl q (n.toNat - 1) + 1)) .non
def sp_left_over : Spec := spLeft maxN
def sp_left_by_turns : Spec := spLeft 2000
def sp__law_state : Spec := fun ds P _ => ∃ ns : List Int, ds = [.frz (ns.map D.int)] ∧ ∀ a b : Int, P (.lst [.int a, .int b]) .non
def sp__law_take : Spec := fun ds P _ => ∃ a b m : Int, ds = [.lst [.int a, .int b], .int m] ∧ 0 < m ∧ m < 1073741824 ∧ ∀ v a' b' : Int, 0 ≤ v → v < m → P (.int v) (.lst [.int a', .int b'])
def sp__law_is_whole : Spec := sp_is_integer
def sp__law_same_0 : Spec := fun ds P _ => ∃ (d : D) (j : Int), ds = [d, .int j] ∧ hasTy d = true ∧ sclD d = true ∧ P (.bl (isI d && eqD d (.int j))) .non
def spv (n : Nat) : Spec := if n = 3 then sp_left_over else if n = 4 then sp_left_by_turns else fun _ _ _ => False
def sp__law_told : Spec := fun ds P _ => ∃ (n : Nat) (x y : D), ds = [.fn n, .tup [x, y]] ∧ spv n [x, y] (fun _ _ => False) (fun e => e = .mal) ∧ P (.tup [.str "malformed", .non]) .non
def sp__law_all_malformed : Spec := fun ds P _ => ∃ its : List (Nat × D × D), ds = [.lst (its.map fun p => .tup [.fn p.1, .tup [p.2.1, p.2.2]])] ∧ its.length ≤ 1000 ∧ (∀ p ∈ its, spv p.1 [p.2.1, p.2.2] (fun _ _ => False) (fun e => e = .mal)) ∧ P (.bl true) .non
def sp__law_great : Spec := fun ds P _ => ∃ a b : Int, ds = [.lst [.int a, .int b]] ∧ ∀ v a' b' : Int, 0 ≤ v → v < 100000000000000000000000000 → P (.int v) (.lst [.int a', .int b'])
def sp__law_left : Spec := fun ds P _ => ∃ n q : Int, ds = [.int n, .int q] ∧ 1 ≤ n ∧ n ≤ 200 ∧ 2 ≤ q ∧ q ≤ 40 ∧ P (.int (pl q (n.toNat - 1) + 1)) .non
def sp__law_turns : Spec := fun ds P _ => ∃ n q : Int, ds = [.int n, .int q] ∧ 1 ≤ n ∧ n ≤ 2000 ∧ 2 ≤ q ∧ q ≤ 40 ∧ P (.int (pl q (n.toNat - 1) + 1)) .non
end Pd.K41

/-! The defs of the text in the short syntax (printed by gen.py). -/
namespace Pd.K41
open L2 PyProof.Rows PySem.Spec PySem

def top (i : Nat) : Stmt := PySem.Challenge.pw_radixroads_k41_whole_people_in_a_ring.main.body.getD i (.Pass ⟨0, 0, 0, 0⟩)
/-- 0: is_integer; slots 0 value -/
def b_is_integer : S :=
  .seq (.ret (.and (.cons (.isi (.var 0) .int) (.cons (.not (.isi (.var 0) .bool)) .nil)))) .nil
def f_is_integer : Fd := ⟨"is_integer", defArgs (top 5), defBody (top 5), defScope (top 5), ["value"], ["value"], b_is_integer, false, false, 1, sp_is_integer⟩
/-- 1: is_count; slots 0 value, 1 low, 2 high -/
def b_is_count : S :=
  .seq (.ret (.and (.cons (.call 0 (.cons (.var 0) .nil)) (.cons (.chn .le .le (.var 1) (.var 0) (.var 2)) .nil)))) .nil
def f_is_count : Fd := ⟨"is_count", defArgs (top 6), defBody (top 6), defScope (top 6), ["value", "low", "high"], ["value", "low", "high"], b_is_count, false, false, 2, sp_is_count⟩
/-- 2: check_count; slots 0 value, 1 low, 2 high -/
def b_check_count : S :=
  .seq (.ife (.not (.tst (.call 1 (.cons (.var 0) (.cons (.var 1) (.cons (.var 2) .nil)))))) (.seq (.rmal "a number") .nil) (.nil)) .nil
def f_check_count : Fd := ⟨"check_count", defArgs (top 7), defBody (top 7), defScope (top 7), ["value", "low", "high"], ["value", "low", "high"], b_check_count, false, false, 3, sp_check_count⟩
/-- 3: left_over; slots 0 n, 1 q, 2 d -/
def b_left_over : S :=
  .seq (.expr (.call 2 (.cons (.var 0) (.cons (.int 1) (.cons (.gint "MOST_NUMBER" 1000000000000000000000000000000) .nil)))))
  (.seq (.expr (.call 2 (.cons (.var 1) (.cons (.int 2) (.cons (.int 40) .nil)))))
  (.seq (.asg 2 (.int 1))
  (.seq (.whl (.tst (.cmp .le (.var 2) (.bin .mul (.bin .sub (.var 1) (.int 1)) (.var 0)))) (.seq (.asg 2 (.neg (.bin .fdiv (.bin .mul (.neg (.var 1)) (.var 2)) (.bin .sub (.var 1) (.int 1))))) .nil))
  (.seq (.ret (.bin .sub (.bin .add (.bin .mul (.var 1) (.var 0)) (.int 1)) (.var 2))) .nil))))
def f_left_over : Fd := ⟨"left_over", defArgs (top 10), defBody (top 10), defScope (top 10), ["n", "q", "d"], ["n", "q"], b_left_over, false, false, 4, sp_left_over⟩
/-- 4: left_by_turns; slots 0 n, 1 q, 2 at, 3 k -/
def b_left_by_turns : S :=
  .seq (.expr (.call 2 (.cons (.var 0) (.cons (.int 1) (.cons (.int 2000) .nil)))))
  (.seq (.expr (.call 2 (.cons (.var 1) (.cons (.int 2) (.cons (.int 40) .nil)))))
  (.seq (.asg 2 (.int 0))
  (.seq (.for_ [3] false (.rng (.cons (.int 2) (.cons (.bin .add (.var 0) (.int 1)) .nil))) (.seq (.asg 2 (.bin .mod (.bin .add (.var 2) (.var 1)) (.var 3))) .nil))
  (.seq (.ret (.bin .add (.var 2) (.int 1))) .nil))))
def f_left_by_turns : Fd := ⟨"left_by_turns", defArgs (top 11), defBody (top 11), defScope (top 11), ["n", "q", "at", "k"], ["n", "q"], b_left_by_turns, false, false, 4, sp_left_by_turns⟩
/-- 5: _law_state; slots 0 script, 1 seed, 2 total, 3 cell -/
def b__law_state : S :=
  .seq (.asg 1 (.int 0))
  (.seq (.asg 2 (.int 1))
  (.seq (.for_ [3] false (.seq (.slc (.var 0) .nil (.cons (.int 63) .nil))) (.seq (.asg 1 (.bin .add (.bin .mul (.var 1) (.int 1000003)) (.blt .abs (.cons (.var 3) .nil))))
    (.seq (.asg 2 (.bin .mod (.blt .int (.cons (.bin .add (.bin .mul (.var 2) (.int 48271)) (.var 3)) .nil)) (.int 2147483647))) .nil)))
  (.seq (.ret (.lst (.cons (.var 1) (.cons (.ite (.tst (.cmp .ne (.var 2) (.int 1973665155))) (.var 2) (.int 7)) .nil)))) .nil)))
def f__law_state : Fd := ⟨"_law_state", defArgs (top 13), defBody (top 13), defScope (top 13), ["script", "seed", "total", "cell"], ["script"], b__law_state, false, true, 1, sp__law_state⟩
/-- 6: _law_take; slots 0 state, 1 m, 2 value -/
def b__law_take : S :=
  .seq (.ife (.tst (.cmp .gt (.ix (.var 0) (.int 0)) (.int 0))) (.seq (.asg 2 (.bin .mod (.blt .int (.cons (.ix (.var 0) (.int 0)) .nil)) (.var 1)))
    (.seq (.seti 0 (.int 0) (.bin .fdiv (.ix (.var 0) (.int 0)) (.var 1)))
    (.seq (.ret (.var 2)) .nil))) (.nil))
  (.seq (.seti 0 (.int 1) (.bin .mod (.blt .int (.cons (.bin .add (.bin .mul (.ix (.var 0) (.int 1)) (.int 48271)) (.int 11)) .nil)) (.int 2147483647)))
  (.seq (.ret (.bin .mod (.blt .int (.cons (.bin .fdiv (.ix (.var 0) (.int 1)) (.int 7)) .nil)) (.var 1))) .nil))
def f__law_take : Fd := ⟨"_law_take", defArgs (top 14), defBody (top 14), defScope (top 14), ["state", "m", "value"], ["state", "m"], b__law_take, true, false, 1, sp__law_take⟩
/-- 7: _law_is_whole; slots 0 value -/
def b__law_is_whole : S :=
  .seq (.ret (.and (.cons (.isi (.var 0) .int) (.cons (.not (.isi (.var 0) .bool)) .nil)))) .nil
def f__law_is_whole : Fd := ⟨"_law_is_whole", defArgs (top 15), defBody (top 15), defScope (top 15), ["value"], ["value"], b__law_is_whole, false, false, 1, sp__law_is_whole⟩
/-- 8: _law_same_v; slots 0 one, 1 two, 2 k -/
def b__law_same_v : S :=
  .nil
def f__law_same_v : Fd := ⟨"_law_same", defArgs (top 16), defBody (top 16), defScope (top 16), ["one", "two", "k"], ["one", "two"], b__law_same_v, false, false, 0, fun _ _ _ => False⟩
/-- 9: _law_same_0; slots 0 one, 1 two, 2 k -/
def b__law_same_0 : S :=
  .seq (.ife (.tst (.isi (.var 1) .bool)) (.seq (.ret (.and (.cons (.isi (.var 0) .bool) (.cons (.cmp .eq (.var 0) (.var 1)) .nil)))) .nil) (.nil))
  (.seq (.ife (.tst (.isi (.var 1) .tuple)) (.seq (.ret (.and (.cons (.isi (.var 0) .tuple) (.cons (.cmp .eq (.blt .len (.cons (.var 0) .nil)) (.blt .len (.cons (.var 1) .nil))) (.cons (.blt .all (.cons (.lc [2] false (.rng (.cons (.blt .len (.cons (.var 1) .nil)) .nil)) .nil (.call 8 (.cons (.ix (.var 0) (.var 2)) (.cons (.ix (.var 1) (.var 2)) .nil)))) .nil)) .nil))))) .nil) (.nil))
  (.seq (.ife (.tst (.isi (.var 1) .list)) (.seq (.ret (.and (.cons (.isi (.var 0) .tuple) (.cons (.call 8 (.cons (.var 0) (.cons (.blt .tuple (.cons (.var 1) .nil)) .nil))) .nil)))) .nil) (.nil))
  (.seq (.ife (.tst (.isi (.var 1) .str)) (.seq (.ret (.and (.cons (.isi (.var 0) .str) (.cons (.cmp .eq (.var 0) (.var 1)) .nil)))) .nil) (.nil))
  (.seq (.ife (.tst (.isn (.var 1))) (.seq (.ret (.isn (.var 0))) .nil) (.nil))
  (.seq (.ret (.and (.cons (.call 7 (.cons (.var 0) .nil)) (.cons (.cmp .eq (.var 0) (.var 1)) .nil)))) .nil)))))
def f__law_same_0 : Fd := ⟨"_law_same", defArgs (top 16), defBody (top 16), defScope (top 16), ["one", "two", "k"], ["one", "two"], b__law_same_0, false, false, 2, sp__law_same_0⟩
/-- 10: _law_told; slots 0 act, 1 given, 2 refused -/
def b__law_told : S :=
  .seq (.tr (.seq (.ife (.tst (.cmp .gt (.blt .len (.cons (.var 1) .nil)) (.int 3))) (.seq (.ret (.tup (.cons (.str "told") (.cons (.ite (.tst (.cmp .eq (.blt .len (.cons (.var 1) .nil)) (.int 4))) (.clv 0 (.cons (.ix (.var 1) (.int 0)) (.cons (.ix (.var 1) (.int 1)) (.cons (.ix (.var 1) (.int 2)) (.cons (.ix (.var 1) (.int 3)) .nil))))) (.clv 0 (.cons (.ix (.var 1) (.int 0)) (.cons (.ix (.var 1) (.int 1)) (.cons (.ix (.var 1) (.int 2)) (.cons (.ix (.var 1) (.int 3)) (.cons (.ix (.var 1) (.int 4)) .nil))))))) .nil)))) .nil) (.nil))
    (.seq (.ret (.tup (.cons (.str "told") (.cons (.ite (.tst (.cmp .eq (.blt .len (.cons (.var 1) .nil)) (.int 1))) (.clv 0 (.cons (.ix (.var 1) (.int 0)) .nil)) (.ite (.tst (.cmp .eq (.blt .len (.cons (.var 1) .nil)) (.int 2))) (.clv 0 (.cons (.ix (.var 1) (.int 0)) (.cons (.ix (.var 1) (.int 1)) .nil))) (.clv 0 (.cons (.ix (.var 1) (.int 0)) (.cons (.ix (.var 1) (.int 1)) (.cons (.ix (.var 1) (.int 2)) .nil)))))) .nil)))) .nil)) (.hnd .mal none (.tup (.cons (.str "malformed") (.cons .non .nil))) (.hnd .ref (some 2) (.tup (.cons (.str "refused") .nil)) .nil))) .nil
def f__law_told : Fd := ⟨"_law_told", defArgs (top 17), defBody (top 17), defScope (top 17), ["act", "given", "refused"], ["act", "given"], b__law_told, false, false, 5, sp__law_told⟩
/-- 11: _law_all_malformed; slots 0 tried, 1 act, 2 given -/
def b__law_all_malformed : S :=
  .seq (.ret (.blt .all (.cons (.lc [1, 2] true (.seq (.var 0)) .nil (.cmp .eq (.call 10 (.cons (.var 1) (.cons (.var 2) .nil))) (.tup (.cons (.str "malformed") (.cons .non .nil))))) .nil))) .nil
def f__law_all_malformed : Fd := ⟨"_law_all_malformed", defArgs (top 18), defBody (top 18), defScope (top 18), ["tried", "act", "given"], ["tried"], b__law_all_malformed, false, false, 6, sp__law_all_malformed⟩
/-- 12: _law_great; slots 0 state, 1 k, 2 n -/
def b__law_great : S :=
  .seq (.asg 1 (.cio 6 0 (.cons (.int 5) .nil)))
  (.seq (.asg 2 (.cio 6 0 (.cons (.int 60) .nil)))
  (.seq (.ife (.tst (.cmp .gt (.var 1) (.int 2))) (.seq (.asg 2 (.bin .add (.bin .mul (.var 2) (.int 1000)) (.cio 6 0 (.cons (.int 1000) .nil)))) .nil) (.nil))
  (.seq (.ife (.tst (.cmp .eq (.var 1) (.int 4))) (.seq (.asg 2 (.bin .add (.bin .mul (.var 2) (.int 100000000000000000000)) (.bin .mul (.cio 6 0 (.cons (.int 1000003) .nil)) (.int 1000000007)))) .nil) (.nil))
  (.seq (.ret (.var 2)) .nil))))
def f__law_great : Fd := ⟨"_law_great", defArgs (top 19), defBody (top 19), defScope (top 19), ["state", "k", "n"], ["state"], b__law_great, true, false, 2, sp__law_great⟩
/-- 13: _law_left; slots 0 n, 1 q, 2 ring, 3 at -/
def b__law_left : S :=
  .seq (.par [2, 3] (.cons (.lrng (.cons (.int 1) (.cons (.bin .add (.var 0) (.int 1)) .nil))) (.cons (.int 0) .nil)))
  (.seq (.whl (.tst (.cmp .gt (.blt .len (.cons (.var 2) .nil)) (.int 1))) (.seq (.asg 3 (.bin .mod (.blt .int (.cons (.bin .sub (.bin .add (.var 3) (.var 1)) (.int 1)) .nil)) (.blt .len (.cons (.var 2) .nil))))
    (.seq (.asg 2 (.bin .add (.slc (.var 2) .nil (.cons (.var 3) .nil)) (.slc (.var 2) (.cons (.bin .add (.var 3) (.int 1)) .nil) .nil))) .nil)))
  (.seq (.ret (.ix (.var 2) (.int 0))) .nil))
def f__law_left : Fd := ⟨"_law_left", defArgs (top 20), defBody (top 20), defScope (top 20), ["n", "q", "ring", "at"], ["n", "q"], b__law_left, false, false, 1, sp__law_left⟩
/-- 14: _law_turns; slots 0 n, 1 q, 2 at, 3 k -/
def b__law_turns : S :=
  .seq (.asg 2 (.int 0))
  (.seq (.for_ [3] false (.rng (.cons (.int 2) (.cons (.bin .add (.var 0) (.int 1)) .nil))) (.seq (.asg 2 (.bin .mod (.blt .int (.cons (.bin .add (.var 2) (.var 1)) .nil)) (.var 3))) .nil))
  (.seq (.ret (.bin .add (.var 2) (.int 1))) .nil))
def f__law_turns : Fd := ⟨"_law_turns", defArgs (top 21), defBody (top 21), defScope (top 21), ["n", "q", "at", "k"], ["n", "q"], b__law_turns, false, false, 1, sp__law_turns⟩
/-- 15: law; slots 0 script, 1 state, 2 n, 3 q, 4 due, 5 m, 6 great, 7 top, 8 told, 9 later, 10 tried, 11 bad -/
def b_law : S :=
  .seq (.asg 1 (.call 5 (.cons (.var 0) .nil)))
  (.seq (.par [2, 3] (.cons (.bin .add (.int 1) (.cio 6 1 (.cons (.int 150) .nil))) (.cons (.bin .add (.int 2) (.cio 6 1 (.cons (.int 39) .nil))) .nil)))
  (.seq (.asg 4 (.call 13 (.cons (.var 2) (.cons (.var 3) .nil))))
  (.seq (.ife (.or (.cons (.not (.tst (.call 9 (.cons (.call 3 (.cons (.var 2) (.cons (.var 3) .nil))) (.cons (.var 4) .nil))))) (.cons (.not (.tst (.call 9 (.cons (.call 4 (.cons (.var 2) (.cons (.var 3) .nil))) (.cons (.var 4) .nil))))) .nil))) (.seq (.ret (.bl false)) .nil) (.nil))
  (.seq (.asg 5 (.bin .add (.int 1) (.cio 6 1 (.cons (.int 2000) .nil))))
  (.seq (.ife (.or (.cons (.not (.tst (.call 9 (.cons (.call 3 (.cons (.var 5) (.cons (.var 3) .nil))) (.cons (.call 4 (.cons (.var 5) (.cons (.var 3) .nil))) .nil))))) (.cons (.not (.tst (.call 9 (.cons (.call 3 (.cons (.var 5) (.cons (.var 3) .nil))) (.cons (.call 14 (.cons (.var 5) (.cons (.var 3) .nil))) .nil))))) .nil))) (.seq (.ret (.bl false)) .nil) (.nil))
  (.seq (.asg 6 (.bin .add (.int 1) (.cio 12 1 .nil)))
  (.seq (.asg 7 (.int 1))
  (.seq (.whl (.tst (.cmp .le (.bin .mul (.int 2) (.var 7)) (.var 6))) (.seq (.asg 7 (.bin .mul (.int 2) (.var 7))) .nil))
  (.seq (.ife (.not (.tst (.call 9 (.cons (.call 3 (.cons (.var 6) (.cons (.int 2) .nil))) (.cons (.bin .add (.bin .mul (.int 2) (.bin .sub (.var 6) (.var 7))) (.int 1)) .nil))))) (.seq (.ret (.bl false)) .nil) (.nil))
  (.seq (.par [8, 9] (.cons (.call 3 (.cons (.var 6) (.cons (.var 3) .nil))) (.cons (.call 3 (.cons (.bin .add (.var 6) (.int 1)) (.cons (.var 3) .nil))) .nil)))
  (.seq (.ife (.or (.cons (.not (.tst (.call 7 (.cons (.var 8) .nil)))) (.cons (.not (.tst (.chn .le .le (.int 1) (.var 8) (.var 6)))) (.cons (.not (.tst (.call 9 (.cons (.var 9) (.cons (.bin .add (.bin .mod (.blt .int (.cons (.bin .add (.bin .sub (.var 8) (.int 1)) (.var 3)) .nil)) (.bin .add (.var 6) (.int 1))) (.int 1)) .nil))))) .nil)))) (.seq (.ret (.bl false)) .nil) (.nil))
  (.seq (.asg 10 (.lst (.cons (.tup (.cons (.fnv 4) (.cons (.tup (.cons (.int 2001) (.cons (.int 2) .nil))) .nil))) (.cons (.tup (.cons (.fnv 3) (.cons (.tup (.cons (.int 1000000000000000000000000000001) (.cons (.int 2) .nil))) .nil))) .nil))))
  (.seq (.for_ [11] false (.seq (.lst (.cons (.int 0) (.cons (.neg (.int 1)) (.cons .non (.cons (.bl true) (.cons (.str "1") .nil))))))) (.seq (.asg 10 (.bin .add (.var 10) (.lst (.cons (.tup (.cons (.fnv 3) (.cons (.tup (.cons (.var 11) (.cons (.int 2) .nil))) .nil))) (.cons (.tup (.cons (.fnv 4) (.cons (.tup (.cons (.var 11) (.cons (.int 2) .nil))) .nil))) .nil))))) .nil))
  (.seq (.for_ [11] false (.seq (.lst (.cons (.int 1) (.cons (.int 41) (.cons .non (.cons (.bl true) .nil)))))) (.seq (.asg 10 (.bin .add (.var 10) (.lst (.cons (.tup (.cons (.fnv 3) (.cons (.tup (.cons (.int 5) (.cons (.var 11) .nil))) .nil))) (.cons (.tup (.cons (.fnv 4) (.cons (.tup (.cons (.int 5) (.cons (.var 11) .nil))) .nil))) .nil))))) .nil))
  (.seq (.ret (.call 11 (.cons (.var 10) .nil))) .nil)))))))))))))))
def f_law : Fd := ⟨"law", defArgs (top 22), defBody (top 22), defScope (top 22), ["script", "state", "n", "q", "due", "m", "great", "top", "told", "later", "tried", "bad"], ["script"], b_law, false, false, 7, lawSp⟩
def tx : Tx := ⟨[f_is_integer, f_is_count, f_check_count, f_left_over, f_left_by_turns, f__law_state, f__law_take, f__law_is_whole, f__law_same_v, f__law_same_0, f__law_told, f__law_all_malformed, f__law_great, f__law_left, f__law_turns, f_law], [.mal, .ref], [.mal, .ref], [("MOST_NUMBER", 1000000000000000000000000000000)]⟩
theorem c_is_integer : chk tx.T tx.ek tx.gi f_is_integer = true := by decide +kernel
theorem c_is_count : chk tx.T tx.ek tx.gi f_is_count = true := by decide +kernel
theorem c_check_count : chk tx.T tx.ek tx.gi f_check_count = true := by decide +kernel
theorem c_left_over : chk tx.T tx.ek tx.gi f_left_over = true := by decide +kernel
theorem c_left_by_turns : chk tx.T tx.ek tx.gi f_left_by_turns = true := by decide +kernel
theorem c__law_state : chk tx.T tx.ek tx.gi f__law_state = true := by decide +kernel
theorem c__law_take : chk tx.T tx.ek tx.gi f__law_take = true := by decide +kernel
theorem c__law_is_whole : chk tx.T tx.ek tx.gi f__law_is_whole = true := by decide +kernel
theorem c__law_same_v : chk tx.T tx.ek tx.gi f__law_same_v = true := by decide +kernel
theorem c__law_same_0 : chk tx.T tx.ek tx.gi f__law_same_0 = true := by decide +kernel
theorem c__law_told : chk tx.T tx.ek tx.gi f__law_told = true := by decide +kernel
theorem c__law_all_malformed : chk tx.T tx.ek tx.gi f__law_all_malformed = true := by decide +kernel
theorem c__law_great : chk tx.T tx.ek tx.gi f__law_great = true := by decide +kernel
theorem c__law_left : chk tx.T tx.ek tx.gi f__law_left = true := by decide +kernel
theorem c__law_turns : chk tx.T tx.ek tx.gi f__law_turns = true := by decide +kernel
theorem c_law : chk tx.T tx.ek tx.gi f_law = true := by decide +kernel
theorem a_is_integer : BindOk f_is_integer := fun _ _ _ _ _ _ us hl => match us, hl with | [_], _ => rfl
theorem a_is_count : BindOk f_is_count := fun _ _ _ _ _ _ us hl => match us, hl with | [_, _, _], _ => rfl
theorem a_check_count : BindOk f_check_count := fun _ _ _ _ _ _ us hl => match us, hl with | [_, _, _], _ => rfl
theorem a_left_over : BindOk f_left_over := fun _ _ _ _ _ _ us hl => match us, hl with | [_, _], _ => rfl
theorem a_left_by_turns : BindOk f_left_by_turns := fun _ _ _ _ _ _ us hl => match us, hl with | [_, _], _ => rfl
theorem a__law_state : BindOk f__law_state := fun _ _ _ _ _ _ us hl => match us, hl with | [_], _ => rfl
theorem a__law_take : BindOk f__law_take := fun _ _ _ _ _ _ us hl => match us, hl with | [_, _], _ => rfl
theorem a__law_is_whole : BindOk f__law_is_whole := fun _ _ _ _ _ _ us hl => match us, hl with | [_], _ => rfl
theorem a__law_same_v : BindOk f__law_same_v := fun _ _ _ _ _ _ us hl => match us, hl with | [_, _], _ => rfl
theorem a__law_same_0 : BindOk f__law_same_0 := fun _ _ _ _ _ _ us hl => match us, hl with | [_, _], _ => rfl
theorem a__law_told : BindOk f__law_told := fun _ _ _ _ _ _ us hl => match us, hl with | [_, _], _ => rfl
theorem a__law_all_malformed : BindOk f__law_all_malformed := fun _ _ _ _ _ _ us hl => match us, hl with | [_], _ => rfl
theorem a__law_great : BindOk f__law_great := fun _ _ _ _ _ _ us hl => match us, hl with | [_], _ => rfl
theorem a__law_left : BindOk f__law_left := fun _ _ _ _ _ _ us hl => match us, hl with | [_, _], _ => rfl
theorem a__law_turns : BindOk f__law_turns := fun _ _ _ _ _ _ us hl => match us, hl with | [_, _], _ => rfl
theorem a_law : BindOk f_law := fun _ _ _ _ _ _ us hl => match us, hl with | [_], _ => rfl
theorem n_is_integer : fdAt tx.T 0 = f_is_integer := rfl
theorem n_is_count : fdAt tx.T 1 = f_is_count := rfl
theorem n_check_count : fdAt tx.T 2 = f_check_count := rfl
theorem n_left_over : fdAt tx.T 3 = f_left_over := rfl
theorem n_left_by_turns : fdAt tx.T 4 = f_left_by_turns := rfl
theorem n__law_state : fdAt tx.T 5 = f__law_state := rfl
theorem n__law_take : fdAt tx.T 6 = f__law_take := rfl
theorem n__law_is_whole : fdAt tx.T 7 = f__law_is_whole := rfl
theorem n__law_same_v : fdAt tx.T 8 = f__law_same_v := rfl
theorem n__law_same_0 : fdAt tx.T 9 = f__law_same_0 := rfl
theorem n__law_told : fdAt tx.T 10 = f__law_told := rfl
theorem n__law_all_malformed : fdAt tx.T 11 = f__law_all_malformed := rfl
theorem n__law_great : fdAt tx.T 12 = f__law_great := rfl
theorem n__law_left : fdAt tx.T 13 = f__law_left := rfl
theorem n__law_turns : fdAt tx.T 14 = f__law_turns := rfl
theorem n_law : fdAt tx.T 15 = f_law := rfl
theorem s_is_integer (f : Fd) : (gxOf tx.T tx.ek f).sp 0 = f_is_integer.sp := rfl
theorem fr_is_integer (f : Fd) : (gxOf tx.T tx.ek f).tb.fr 0 = false := rfl
theorem p_is_integer : (gxOf tx.T tx.ek f_is_integer).iop = none := rfl
theorem s_is_count (f : Fd) : (gxOf tx.T tx.ek f).sp 1 = f_is_count.sp := rfl
theorem fr_is_count (f : Fd) : (gxOf tx.T tx.ek f).tb.fr 1 = false := rfl
theorem p_is_count : (gxOf tx.T tx.ek f_is_count).iop = none := rfl
theorem s_check_count (f : Fd) : (gxOf tx.T tx.ek f).sp 2 = f_check_count.sp := rfl
theorem fr_check_count (f : Fd) : (gxOf tx.T tx.ek f).tb.fr 2 = false := rfl
theorem p_check_count : (gxOf tx.T tx.ek f_check_count).iop = none := rfl
theorem s_left_over (f : Fd) : (gxOf tx.T tx.ek f).sp 3 = f_left_over.sp := rfl
theorem fr_left_over (f : Fd) : (gxOf tx.T tx.ek f).tb.fr 3 = false := rfl
theorem p_left_over : (gxOf tx.T tx.ek f_left_over).iop = none := rfl
theorem s_left_by_turns (f : Fd) : (gxOf tx.T tx.ek f).sp 4 = f_left_by_turns.sp := rfl
theorem fr_left_by_turns (f : Fd) : (gxOf tx.T tx.ek f).tb.fr 4 = false := rfl
theorem p_left_by_turns : (gxOf tx.T tx.ek f_left_by_turns).iop = none := rfl
theorem s__law_state (f : Fd) : (gxOf tx.T tx.ek f).sp 5 = f__law_state.sp := rfl
theorem fr__law_state (f : Fd) : (gxOf tx.T tx.ek f).tb.fr 5 = true := rfl
theorem p__law_state : (gxOf tx.T tx.ek f__law_state).iop = none := rfl
theorem s__law_take (f : Fd) : (gxOf tx.T tx.ek f).sp 6 = f__law_take.sp := rfl
theorem fr__law_take (f : Fd) : (gxOf tx.T tx.ek f).tb.fr 6 = false := rfl
theorem p__law_take : (gxOf tx.T tx.ek f__law_take).iop = some 0 := rfl
theorem s__law_is_whole (f : Fd) : (gxOf tx.T tx.ek f).sp 7 = f__law_is_whole.sp := rfl
theorem fr__law_is_whole (f : Fd) : (gxOf tx.T tx.ek f).tb.fr 7 = false := rfl
theorem p__law_is_whole : (gxOf tx.T tx.ek f__law_is_whole).iop = none := rfl
theorem s__law_same_v (f : Fd) : (gxOf tx.T tx.ek f).sp 8 = f__law_same_v.sp := rfl
theorem fr__law_same_v (f : Fd) : (gxOf tx.T tx.ek f).tb.fr 8 = false := rfl
theorem p__law_same_v : (gxOf tx.T tx.ek f__law_same_v).iop = none := rfl
theorem s__law_same_0 (f : Fd) : (gxOf tx.T tx.ek f).sp 9 = f__law_same_0.sp := rfl
theorem fr__law_same_0 (f : Fd) : (gxOf tx.T tx.ek f).tb.fr 9 = false := rfl
theorem p__law_same_0 : (gxOf tx.T tx.ek f__law_same_0).iop = none := rfl
theorem s__law_told (f : Fd) : (gxOf tx.T tx.ek f).sp 10 = f__law_told.sp := rfl
theorem fr__law_told (f : Fd) : (gxOf tx.T tx.ek f).tb.fr 10 = false := rfl
theorem p__law_told : (gxOf tx.T tx.ek f__law_told).iop = none := rfl
theorem s__law_all_malformed (f : Fd) : (gxOf tx.T tx.ek f).sp 11 = f__law_all_malformed.sp := rfl
theorem fr__law_all_malformed (f : Fd) : (gxOf tx.T tx.ek f).tb.fr 11 = false := rfl
theorem p__law_all_malformed : (gxOf tx.T tx.ek f__law_all_malformed).iop = none := rfl
theorem s__law_great (f : Fd) : (gxOf tx.T tx.ek f).sp 12 = f__law_great.sp := rfl
theorem fr__law_great (f : Fd) : (gxOf tx.T tx.ek f).tb.fr 12 = false := rfl
theorem p__law_great : (gxOf tx.T tx.ek f__law_great).iop = some 0 := rfl
theorem s__law_left (f : Fd) : (gxOf tx.T tx.ek f).sp 13 = f__law_left.sp := rfl
theorem fr__law_left (f : Fd) : (gxOf tx.T tx.ek f).tb.fr 13 = false := rfl
theorem p__law_left : (gxOf tx.T tx.ek f__law_left).iop = none := rfl
theorem s__law_turns (f : Fd) : (gxOf tx.T tx.ek f).sp 14 = f__law_turns.sp := rfl
theorem fr__law_turns (f : Fd) : (gxOf tx.T tx.ek f).tb.fr 14 = false := rfl
theorem p__law_turns : (gxOf tx.T tx.ek f__law_turns).iop = none := rfl
theorem s_law (f : Fd) : (gxOf tx.T tx.ek f).sp 15 = f_law.sp := rfl
theorem fr_law (f : Fd) : (gxOf tx.T tx.ek f).tb.fr 15 = false := rfl
theorem p_law : (gxOf tx.T tx.ek f_law).iop = none := rfl
theorem c_all : ∀ f ∈ tx.T, chk tx.T tx.ek tx.gi f = true := by
  intro f hf
  simp only [tx, List.mem_cons, List.not_mem_nil, or_false] at hf
  rcases hf with rfl | rfl | rfl | rfl | rfl | rfl | rfl | rfl | rfl | rfl | rfl | rfl | rfl | rfl | rfl | rfl
  · exact c_is_integer
  · exact c_is_count
  · exact c_check_count
  · exact c_left_over
  · exact c_left_by_turns
  · exact c__law_state
  · exact c__law_take
  · exact c__law_is_whole
  · exact c__law_same_v
  · exact c__law_same_0
  · exact c__law_told
  · exact c__law_all_malformed
  · exact c__law_great
  · exact c__law_left
  · exact c__law_turns
  · exact c_law
theorem a_all : ∀ f ∈ tx.T, BindOk f := by
  intro f hf
  simp only [tx, List.mem_cons, List.not_mem_nil, or_false] at hf
  rcases hf with rfl | rfl | rfl | rfl | rfl | rfl | rfl | rfl | rfl | rfl | rfl | rfl | rfl | rfl | rfl | rfl
  · exact a_is_integer
  · exact a_is_count
  · exact a_check_count
  · exact a_left_over
  · exact a_left_by_turns
  · exact a__law_state
  · exact a__law_take
  · exact a__law_is_whole
  · exact a__law_same_v
  · exact a__law_same_0
  · exact a__law_told
  · exact a__law_all_malformed
  · exact a__law_great
  · exact a__law_left
  · exact a__law_turns
  · exact a_law
end Pd.K41

/-! k41: numbers only. -/
namespace Pd.K41
def st (q d : Int) : Int := -((-q * d).fdiv (q - 1))
def dk (q : Int) : Nat → Int
  | 0 => 1
  | k + 1 => st q (dk q k)
def tl (q : Int) : Nat → Int
  | 0 => -1
  | n + 1 => (tl q n + q).fmod (n + 1)
theorem tl_pl (q : Int) : ∀ n : Nat, tl q (n + 1) = pl q n
  | 0 => by
    show (-1 + q).fmod ((0 : Nat) + 1) = 0
    simp [Int.fmod_one]
  | n + 1 => by
    show (tl q (n + 1) + q).fmod (((n + 1 : Nat) : Int) + 1) = (pl q n + q).fmod (n + 2)
    rw [tl_pl q n]
    congr 1
theorem st_add {q d m : Int} (hq : 2 ≤ q) (h1 : (q - 1) * (m - 1) < d) (h2 : d ≤ (q - 1) * m) : st q d = d + m := by
  unfold st
  rw [Int.fdiv_eq_ediv_of_nonneg _ (by omega)]
  have hp : 0 < q - 1 := by omega
  have e := Int.mul_ediv_add_emod (-q * d) (q - 1)
  have r1 := Int.emod_nonneg (-q * d) (Int.ne_of_gt hp)
  have r2 := Int.emod_lt_of_pos (-q * d) hp
  generalize hc : (-q * d) / (q - 1) = c at e ⊢
  generalize (-q * d) % (q - 1) = r at e r1 r2
  -- (q-1) * c + r = -q d
  have k1 : (q - 1) * (-c - d - m) < (q - 1) * 1 := by
    have : (q - 1) * (-c - d - m) = r + d - (q - 1) * m := by
      have : -q * d = -((q - 1) * d) - d := by rw [Int.sub_mul, Int.neg_mul]; omega
      rw [this] at e
      rw [Int.mul_sub, Int.mul_sub, Int.mul_neg]
      omega
    rw [this]
    omega
  have k2 : (q - 1) * (-1) < (q - 1) * (-c - d - m) := by
    have e3 : (q - 1) * (-c - d - m) = r + d - (q - 1) * m := by
      have : -q * d = -((q - 1) * d) - d := by rw [Int.sub_mul, Int.neg_mul]; omega
      rw [this] at e
      rw [Int.mul_sub, Int.mul_sub, Int.mul_neg]
      omega
    rw [e3]
    rw [Int.mul_sub] at h1
    omega
  have a1 := Int.lt_of_mul_lt_mul_left k1 (Int.le_of_lt hp)
  have a2 := Int.lt_of_mul_lt_mul_left k2 (Int.le_of_lt hp)
  omega
/-- on to the first one above -/
theorem dk_on {q : Int} {n : Nat} (hq : 2 ≤ q) (d0 : Int) : ∀ (fuel k : Nat) (i : Int), dk q k = d0 + i * (n + 1) → (q - 1) * n < dk q k → (∀ j < k, dk q j ≤ (q - 1) * (n + 1)) → dk q k ≤ q * (n + 1) → ((q - 1) * (n + 1) + 1 - dk q k).toNat ≤ fuel →
    ∃ (k' : Nat) (i' : Int), dk q k' = d0 + i' * (n + 1) ∧ (q - 1) * (n + 1) < dk q k' ∧ (∀ j < k', dk q j ≤ (q - 1) * (n + 1)) ∧ dk q k' ≤ q * (n + 1)
  | fuel, k, i, h1, h2, h3, h4, h5 => by
    by_cases hc : (q - 1) * (n + 1) < dk q k
    · exact ⟨k, i, h1, hc, h3, h4⟩
    · cases fuel with
      | zero => omega
      | succ fuel =>
        have hs : dk q (k + 1) = dk q k + (n + 1) := st_add hq (by rw [show ((n : Int) + 1 - 1) = n by omega]; exact h2) (by omega)
        have hpn : 0 ≤ (q - 1) * (n : Int) := Int.mul_nonneg (by omega) (by omega)
        have e1 : q * ((n : Int) + 1) = (q - 1) * (n + 1) + (n + 1) := by rw [Int.sub_mul]; omega
        refine dk_on hq d0 fuel (k + 1) (i + 1) ?_ ?_ ?_ ?_ ?_
        · rw [hs, h1, Int.add_mul]; omega
        · rw [hs]; omega
        · intro j hj
          by_cases z : j = k
          · subst z; omega
          · exact h3 j (by omega)
        · rw [hs]; omega
        · rw [hs]; omega
theorem dk_first {q : Int} (hq : 2 ≤ q) : ∀ n : Nat, ∃ k, (q - 1) * n < dk q k ∧ (∀ j < k, dk q j ≤ (q - 1) * n) ∧ dk q k = q * n - tl q n ∧ -1 ≤ tl q n ∧ tl q n ≤ n - 1 ∧ (1 ≤ n → 0 ≤ tl q n)
  | 0 => ⟨0, by simp [dk], by intro j hj; omega, by simp [dk, tl], by simp [tl], by simp [tl], by intro h; omega⟩
  | n + 1 => by
    obtain ⟨k, h1, h2, h3, h4, h5, _⟩ := dk_first hq n
    have hpn : 0 ≤ (q - 1) * (n : Int) := Int.mul_nonneg (by omega) (by omega)
    have e1 : q * ((n : Int) + 1) = q * n + q := by rw [Int.mul_add]; omega
    have e2 : (q - 1) * ((n : Int) + 1) = (q - 1) * n + (q - 1) := by rw [Int.mul_add]; omega
    obtain ⟨k', i, g1, g2, g3, g4⟩ := dk_on (n := n) hq (dk q k) _ k 0 (by omega) h1 (fun j hj => by have := h2 j hj; omega) (by omega) (Nat.le_refl _)
    have e3 : q * ((n : Int) + 1) = (q - 1) * (n + 1) + (n + 1) := by rw [Int.sub_mul]; omega
    have hr : tl q (n + 1) = q * (n + 1) - dk q k' := by
      show (tl q n + q).fmod (n + 1) = _
      rw [Int.fmod_eq_emod_of_nonneg _ (by omega)]
      have : tl q n + q = (q * (n + 1) - dk q k') + (n + 1) * i := by
        rw [g1, h3, Int.mul_comm i]
        omega
      rw [this, Int.add_mul_emod_self_left, Int.emod_eq_of_lt (by omega) (by omega)]
    have hc : ((n + 1 : Nat) : Int) = n + 1 := by omega
    rw [hc]
    exact ⟨k', g2, g3, by omega, by omega, by omega, fun _ => by omega⟩
theorem pl_bd {q : Int} (hq : 2 ≤ q) (n : Nat) : 0 ≤ pl q n ∧ pl q n ≤ n := by
  obtain ⟨k, _, _, _, _, h5, h6⟩ := dk_first hq (n + 1)
  rw [tl_pl] at h5 h6
  exact ⟨h6 (by omega), by omega⟩
/-- the end of the quick reckoning -/
theorem dk_end {q : Int} (hq : 2 ≤ q) (n : Nat) : ∃ k, (q - 1) * ((n + 1 : Nat) : Int) < dk q k ∧ (∀ j < k, dk q j ≤ (q - 1) * ((n + 1 : Nat) : Int)) ∧ q * ((n + 1 : Nat) : Int) + 1 - dk q k = pl q n + 1 := by
  obtain ⟨k, h1, h2, h3, _⟩ := dk_first hq (n + 1)
  rw [tl_pl] at h3
  exact ⟨k, h1, h2, by omega⟩
theorem dk_two (k : Nat) : dk 2 (k + 1) = 2 * dk 2 k := by
  show st 2 (dk 2 k) = _
  unfold st
  rw [show ((2 : Int) - 1) = 1 from rfl, Int.fdiv_one]
  omega
/-- each second one -/
theorem pl_two {n i : Nat} (h1 : ∀ j ≤ i, dk 2 j ≤ ((n + 1 : Nat) : Int)) (h2 : ((n + 1 : Nat) : Int) < 2 * dk 2 i) : pl 2 n + 1 = 2 * (((n + 1 : Nat) : Int) - dk 2 i) + 1 := by
  obtain ⟨k, g1, g2, g3⟩ := dk_end (q := 2) (by omega) n
  rw [show ((2 : Int) - 1) = 1 from rfl, Int.one_mul] at g1 g2
  have hk : k = i + 1 := by
    by_cases z : k ≤ i
    · have := h1 k z
      omega
    · by_cases z2 : i + 1 < k
      · have := g2 (i + 1) z2
        rw [dk_two] at this
        omega
      · omega
  subst hk
  rw [dk_two] at g3
  omega
/-- one more person -/
theorem pl_more (q : Int) (n : Nat) : pl q (n + 1) = (pl q n + q).fmod (n + 2) := rfl
/-- the one who goes is taken out: where the last one stands -/
theorem out_at {α : Type} {l : List α} {m j : Nat} {t : Nat} (hl : l.length = m + 1) (hj : j ≤ m) (ht : t < m) : (l.take j ++ l.drop (j + 1))[(j + t) % m]? = l[(j + 1 + t) % (m + 1)]? := by
  have hlt : (l.take j).length = j := by rw [List.length_take]; omega
  by_cases h : j + t < m
  · rw [Nat.mod_eq_of_lt h, Nat.mod_eq_of_lt (by omega : j + 1 + t < m + 1), List.getElem?_append_right (by omega), hlt, List.getElem?_drop]
    congr 1
    omega
  · have e1 : (j + t) % m = j + t - m := by rw [Nat.mod_eq_sub_mod (by omega), Nat.mod_eq_of_lt (by omega)]
    have e2 : (j + 1 + t) % (m + 1) = j + t - m := by rw [Nat.mod_eq_sub_mod (by omega), Nat.mod_eq_of_lt (by omega)]; omega
    rw [e1, e2, List.getElem?_append_left (by omega), List.getElem?_take]
    rw [if_pos (by omega)]
theorem turn_at {q : Int} (hq : 2 ≤ q) (i m : Nat) : ((((i : Int) + q - 1).fmod ((m : Int) + 2)).toNat + 1 + (pl q m).toNat) % (m + 2) = (i + (pl q (m + 1)).toNat) % (m + 2) := by
  obtain ⟨p1, _⟩ := pl_bd hq m
  obtain ⟨p3, _⟩ := pl_bd hq (m + 1)
  have hM : (0 : Int) < (m : Int) + 2 := by omega
  have a1 := Int.fmod_nonneg_of_pos ((i : Int) + q - 1) hM
  have q1 := Int.toNat_of_nonneg a1
  have q2 := Int.toNat_of_nonneg p1
  have q3 := Int.toNat_of_nonneg p3
  rw [pl_more] at q3 ⊢
  generalize (((i : Int) + q - 1).fmod ((m : Int) + 2)).toNat = A at q1 ⊢
  generalize (pl q m).toNat = B at q2 ⊢
  generalize ((pl q m + q).fmod ((m : Int) + 2)).toNat = C at q3 ⊢
  rw [Int.fmod_eq_emod_of_nonneg _ (by omega)] at q1 q3
  apply Int.ofNat.inj
  show (((A + 1 + B) % (m + 2) : Nat) : Int) = (((i + C) % (m + 2) : Nat) : Int)
  rw [Int.natCast_emod, Int.natCast_emod]
  have r1 := Int.emod_add_mul_ediv ((i : Int) + q - 1) ((m : Int) + 2)
  have r2 := Int.emod_add_mul_ediv (pl q m + q) ((m : Int) + 2)
  generalize ((i : Int) + q - 1) / ((m : Int) + 2) = c1 at r1
  generalize (pl q m + q) / ((m : Int) + 2) = c2 at r2
  have e0 : ((m + 2 : Nat) : Int) = (m : Int) + 2 := by omega
  have e1 : ((A + 1 + B : Nat) : Int) = (i + q + pl q m) + ((m : Int) + 2) * (-c1) := by rw [Int.mul_neg]; omega
  have e2 : ((i + C : Nat) : Int) = (i + q + pl q m) + ((m : Int) + 2) * (-c2) := by rw [Int.mul_neg]; omega
  rw [e0, e1, e2, Int.add_mul_emod_self_left, Int.add_mul_emod_self_left]
end Pd.K41

/-! k41: each def does what is said. -/
namespace Pd.K41
open L2 PyProof.Rows PySem.Spec PySem
theorem g_is_integer : Good tx.T tx.ek f_is_integer := by
  refine goodV rfl rfl (by decide) fun ds P Ex h => ?_
  obtain ⟨d, rfl, hd, hp⟩ := h
  refine ⟨rfl, ?_⟩
  show wS _ b_is_integer [.val d] _
  unfold b_is_integer
  try simp only [st_for, st_nil, st_expr, st_asg, st_asgl, st_unp, st_par, st_app, st_seti, st_ret, st_retn, st_ife, st_brk, st_cnt, st_rmal, st_tr, wRet, e_var, e_int, e_bl, e_non, e_str, e_fnv, e_gint, e_bin, e_neg, e_not, e_cmp, e_chn, e_isn, e_ntn, e_and, e_or, e_ite, e_tup, e_lst, e_call, e_cio, e_clv, e_blt, e_isi, e_ix, e_slc, e_rev, e_lrng, e_lc, e_met, wA, wP, wAnd, wOr, wT, wTA, wTO, wI, wCs, wHnd, pk, at_, put, putAll, putCs, wTgt, rng_1, rng_2, cellOf, frE, frF, frB, isOwn, isOwnL, Op.rd, Cl.datum, List.getElem?_cons_zero, List.getElem?_cons_succ, List.getElem?_nil, Option.getD_some, Option.getD_none, List.set_cons_zero, List.set_cons_succ, ne_eq, reduceCtorEq, not_false_eq_true, not_true_eq_false, true_and, and_true, if_true, if_false, ite_true, ite_false, Bool.false_eq_true, Bool.true_eq_false, Bool.true_and, Bool.and_true, Bool.false_and, Bool.and_false, Bool.not_true, Bool.not_false, false_implies, true_implies, forall_const, implies_true, bin_add, bin_sub, bin_mul, bin_fdiv, bin_mod, bin_adds, bin_addt, bin_addl, bin_mull, bin_mult, cmp_lt, cmp_le, cmp_gt, cmp_ge, cmp_eqi, cmp_nei, cmp_eqb, cmp_eqs, tru_bl, tru_int, tru_non, tru_tup, tru_lst, tru_frz, ix_tup, len_tup, tpl_tup, lsl_tup, slc_tup, seq_tup, ix_lst, len_lst, tpl_lst, lsl_lst, slc_lst, seq_lst, ix_frz, len_frz, tpl_frz, lsl_frz, slc_frz, seq_frz, len_str, blt_abs, blt_int, blt_intb, blt_max, blt_min, blt_str, blt_all, blt_any, blt_sum, opt_0, opt_1, rng_1, rng_2, atI_0, atI_1, atI_2, atI_3, atI_4, ixN_20, ixN_21, ty_bl_int, ty_bl_bool, ty_bl_str, ty_bl_tuple, ty_bl_list, ht_bl, nn_bl, mu_bl, ty_int_int, ty_int_bool, ty_int_str, ty_int_tuple, ty_int_list, ht_int, nn_int, mu_int, ty_str_int, ty_str_bool, ty_str_str, ty_str_tuple, ty_str_list, ht_str, nn_str, mu_str, ty_tup_int, ty_tup_bool, ty_tup_str, ty_tup_tuple, ty_tup_list, ht_tup, nn_tup, mu_tup, ty_lst_int, ty_lst_bool, ty_lst_str, ty_lst_tuple, ty_lst_list, ht_lst, nn_lst, mu_lst, ty_frz_int, ty_frz_bool, ty_frz_str, ty_frz_tuple, ty_frz_list, ht_frz, nn_frz, mu_frz, ty_non_int, ty_non_bool, ty_non_str, ty_non_tuple, ty_non_list, ht_non, nn_non, mu_non, List.map_cons, List.map_nil, exists_eq_left', decide_eq_true_eq, exists_eq_left, List.length_cons, List.length_nil, Nat.reduceAdd, Int.reduceEq, Int.reduceLT, Int.reduceLE, Int.reduceNeg, decide_true, decide_false, Cl.own.injEq, List.mem_cons, List.not_mem_nil, or_false, forall_eq_or_imp, forall_eq, Option.some.injEq, s_is_integer, fr_is_integer, p_is_integer, s_is_count, fr_is_count, p_is_count, s_check_count, fr_check_count, p_check_count, s_left_over, fr_left_over, p_left_over, s_left_by_turns, fr_left_by_turns, p_left_by_turns, s__law_state, fr__law_state, p__law_state, s__law_take, fr__law_take, p__law_take, s__law_is_whole, fr__law_is_whole, p__law_is_whole, s__law_same_v, fr__law_same_v, p__law_same_v, s__law_same_0, fr__law_same_0, p__law_same_0, s__law_told, fr__law_told, p__law_told, s__law_all_malformed, fr__law_all_malformed, p__law_all_malformed, s__law_great, fr__law_great, p__law_great, s__law_left, fr__law_left, p__law_left, s__law_turns, fr__law_turns, p__law_turns, s_law, fr_law, p_law]
  refine ⟨hd, ?_⟩
  cases d <;> simp_all [tyIs, isI]
theorem g__law_is_whole : Good tx.T tx.ek f__law_is_whole := by
  refine goodV rfl rfl (by decide) fun ds P Ex h => ?_
  obtain ⟨d, rfl, hd, hp⟩ := h
  refine ⟨rfl, ?_⟩
  show wS _ b__law_is_whole [.val d] _
  unfold b__law_is_whole
  try simp only [st_for, st_nil, st_expr, st_asg, st_asgl, st_unp, st_par, st_app, st_seti, st_ret, st_retn, st_ife, st_brk, st_cnt, st_rmal, st_tr, wRet, e_var, e_int, e_bl, e_non, e_str, e_fnv, e_gint, e_bin, e_neg, e_not, e_cmp, e_chn, e_isn, e_ntn, e_and, e_or, e_ite, e_tup, e_lst, e_call, e_cio, e_clv, e_blt, e_isi, e_ix, e_slc, e_rev, e_lrng, e_lc, e_met, wA, wP, wAnd, wOr, wT, wTA, wTO, wI, wCs, wHnd, pk, at_, put, putAll, putCs, wTgt, rng_1, rng_2, cellOf, frE, frF, frB, isOwn, isOwnL, Op.rd, Cl.datum, List.getElem?_cons_zero, List.getElem?_cons_succ, List.getElem?_nil, Option.getD_some, Option.getD_none, List.set_cons_zero, List.set_cons_succ, ne_eq, reduceCtorEq, not_false_eq_true, not_true_eq_false, true_and, and_true, if_true, if_false, ite_true, ite_false, Bool.false_eq_true, Bool.true_eq_false, Bool.true_and, Bool.and_true, Bool.false_and, Bool.and_false, Bool.not_true, Bool.not_false, false_implies, true_implies, forall_const, implies_true, bin_add, bin_sub, bin_mul, bin_fdiv, bin_mod, bin_adds, bin_addt, bin_addl, bin_mull, bin_mult, cmp_lt, cmp_le, cmp_gt, cmp_ge, cmp_eqi, cmp_nei, cmp_eqb, cmp_eqs, tru_bl, tru_int, tru_non, tru_tup, tru_lst, tru_frz, ix_tup, len_tup, tpl_tup, lsl_tup, slc_tup, seq_tup, ix_lst, len_lst, tpl_lst, lsl_lst, slc_lst, seq_lst, ix_frz, len_frz, tpl_frz, lsl_frz, slc_frz, seq_frz, len_str, blt_abs, blt_int, blt_intb, blt_max, blt_min, blt_str, blt_all, blt_any, blt_sum, opt_0, opt_1, rng_1, rng_2, atI_0, atI_1, atI_2, atI_3, atI_4, ixN_20, ixN_21, ty_bl_int, ty_bl_bool, ty_bl_str, ty_bl_tuple, ty_bl_list, ht_bl, nn_bl, mu_bl, ty_int_int, ty_int_bool, ty_int_str, ty_int_tuple, ty_int_list, ht_int, nn_int, mu_int, ty_str_int, ty_str_bool, ty_str_str, ty_str_tuple, ty_str_list, ht_str, nn_str, mu_str, ty_tup_int, ty_tup_bool, ty_tup_str, ty_tup_tuple, ty_tup_list, ht_tup, nn_tup, mu_tup, ty_lst_int, ty_lst_bool, ty_lst_str, ty_lst_tuple, ty_lst_list, ht_lst, nn_lst, mu_lst, ty_frz_int, ty_frz_bool, ty_frz_str, ty_frz_tuple, ty_frz_list, ht_frz, nn_frz, mu_frz, ty_non_int, ty_non_bool, ty_non_str, ty_non_tuple, ty_non_list, ht_non, nn_non, mu_non, List.map_cons, List.map_nil, exists_eq_left', decide_eq_true_eq, exists_eq_left, List.length_cons, List.length_nil, Nat.reduceAdd, Int.reduceEq, Int.reduceLT, Int.reduceLE, Int.reduceNeg, decide_true, decide_false, Cl.own.injEq, List.mem_cons, List.not_mem_nil, or_false, forall_eq_or_imp, forall_eq, Option.some.injEq, s_is_integer, fr_is_integer, p_is_integer, s_is_count, fr_is_count, p_is_count, s_check_count, fr_check_count, p_check_count, s_left_over, fr_left_over, p_left_over, s_left_by_turns, fr_left_by_turns, p_left_by_turns, s__law_state, fr__law_state, p__law_state, s__law_take, fr__law_take, p__law_take, s__law_is_whole, fr__law_is_whole, p__law_is_whole, s__law_same_v, fr__law_same_v, p__law_same_v, s__law_same_0, fr__law_same_0, p__law_same_0, s__law_told, fr__law_told, p__law_told, s__law_all_malformed, fr__law_all_malformed, p__law_all_malformed, s__law_great, fr__law_great, p__law_great, s__law_left, fr__law_left, p__law_left, s__law_turns, fr__law_turns, p__law_turns, s_law, fr_law, p_law]
  refine ⟨hd, ?_⟩
  cases d <;> simp_all [tyIs, isI]
theorem g_is_count : Good tx.T tx.ek f_is_count := by
  refine goodV rfl rfl (by decide) fun ds P Ex h => ?_
  obtain ⟨d, lo, hi, rfl, hd, hp⟩ := h
  refine ⟨rfl, ?_⟩
  show wS _ b_is_count [.val d, .val (.int lo), .val (.int hi)] _
  unfold b_is_count
  try simp only [st_for, st_nil, st_expr, st_asg, st_asgl, st_unp, st_par, st_app, st_seti, st_ret, st_retn, st_ife, st_brk, st_cnt, st_rmal, st_tr, wRet, e_var, e_int, e_bl, e_non, e_str, e_fnv, e_gint, e_bin, e_neg, e_not, e_cmp, e_chn, e_isn, e_ntn, e_and, e_or, e_ite, e_tup, e_lst, e_call, e_cio, e_clv, e_blt, e_isi, e_ix, e_slc, e_rev, e_lrng, e_lc, e_met, wA, wP, wAnd, wOr, wT, wTA, wTO, wI, wCs, wHnd, pk, at_, put, putAll, putCs, wTgt, rng_1, rng_2, cellOf, frE, frF, frB, isOwn, isOwnL, Op.rd, Cl.datum, List.getElem?_cons_zero, List.getElem?_cons_succ, List.getElem?_nil, Option.getD_some, Option.getD_none, List.set_cons_zero, List.set_cons_succ, ne_eq, reduceCtorEq, not_false_eq_true, not_true_eq_false, true_and, and_true, if_true, if_false, ite_true, ite_false, Bool.false_eq_true, Bool.true_eq_false, Bool.true_and, Bool.and_true, Bool.false_and, Bool.and_false, Bool.not_true, Bool.not_false, false_implies, true_implies, forall_const, implies_true, bin_add, bin_sub, bin_mul, bin_fdiv, bin_mod, bin_adds, bin_addt, bin_addl, bin_mull, bin_mult, cmp_lt, cmp_le, cmp_gt, cmp_ge, cmp_eqi, cmp_nei, cmp_eqb, cmp_eqs, tru_bl, tru_int, tru_non, tru_tup, tru_lst, tru_frz, ix_tup, len_tup, tpl_tup, lsl_tup, slc_tup, seq_tup, ix_lst, len_lst, tpl_lst, lsl_lst, slc_lst, seq_lst, ix_frz, len_frz, tpl_frz, lsl_frz, slc_frz, seq_frz, len_str, blt_abs, blt_int, blt_intb, blt_max, blt_min, blt_str, blt_all, blt_any, blt_sum, opt_0, opt_1, rng_1, rng_2, atI_0, atI_1, atI_2, atI_3, atI_4, ixN_20, ixN_21, ty_bl_int, ty_bl_bool, ty_bl_str, ty_bl_tuple, ty_bl_list, ht_bl, nn_bl, mu_bl, ty_int_int, ty_int_bool, ty_int_str, ty_int_tuple, ty_int_list, ht_int, nn_int, mu_int, ty_str_int, ty_str_bool, ty_str_str, ty_str_tuple, ty_str_list, ht_str, nn_str, mu_str, ty_tup_int, ty_tup_bool, ty_tup_str, ty_tup_tuple, ty_tup_list, ht_tup, nn_tup, mu_tup, ty_lst_int, ty_lst_bool, ty_lst_str, ty_lst_tuple, ty_lst_list, ht_lst, nn_lst, mu_lst, ty_frz_int, ty_frz_bool, ty_frz_str, ty_frz_tuple, ty_frz_list, ht_frz, nn_frz, mu_frz, ty_non_int, ty_non_bool, ty_non_str, ty_non_tuple, ty_non_list, ht_non, nn_non, mu_non, List.map_cons, List.map_nil, exists_eq_left', decide_eq_true_eq, exists_eq_left, List.length_cons, List.length_nil, Nat.reduceAdd, Int.reduceEq, Int.reduceLT, Int.reduceLE, Int.reduceNeg, decide_true, decide_false, Cl.own.injEq, List.mem_cons, List.not_mem_nil, or_false, forall_eq_or_imp, forall_eq, Option.some.injEq, s_is_integer, fr_is_integer, p_is_integer, s_is_count, fr_is_count, p_is_count, s_check_count, fr_check_count, p_check_count, s_left_over, fr_left_over, p_left_over, s_left_by_turns, fr_left_by_turns, p_left_by_turns, s__law_state, fr__law_state, p__law_state, s__law_take, fr__law_take, p__law_take, s__law_is_whole, fr__law_is_whole, p__law_is_whole, s__law_same_v, fr__law_same_v, p__law_same_v, s__law_same_0, fr__law_same_0, p__law_same_0, s__law_told, fr__law_told, p__law_told, s__law_all_malformed, fr__law_all_malformed, p__law_all_malformed, s__law_great, fr__law_great, p__law_great, s__law_left, fr__law_left, p__law_left, s__law_turns, fr__law_turns, p__law_turns, s_law, fr_law, p_law]
  refine ⟨d, rfl, hd, ?_⟩
  cases d with
  | int i =>
    simp only [st_for, st_nil, st_expr, st_asg, st_asgl, st_unp, st_par, st_app, st_seti, st_ret, st_retn, st_ife, st_brk, st_cnt, st_rmal, st_tr, wRet, e_var, e_int, e_bl, e_non, e_str, e_fnv, e_gint, e_bin, e_neg, e_not, e_cmp, e_chn, e_isn, e_ntn, e_and, e_or, e_ite, e_tup, e_lst, e_call, e_cio, e_clv, e_blt, e_isi, e_ix, e_slc, e_rev, e_lrng, e_lc, e_met, wA, wP, wAnd, wOr, wT, wTA, wTO, wI, wCs, wHnd, pk, at_, put, putAll, putCs, wTgt, rng_1, rng_2, cellOf, frE, frF, frB, isOwn, isOwnL, Op.rd, Cl.datum, List.getElem?_cons_zero, List.getElem?_cons_succ, List.getElem?_nil, Option.getD_some, Option.getD_none, List.set_cons_zero, List.set_cons_succ, ne_eq, reduceCtorEq, not_false_eq_true, not_true_eq_false, true_and, and_true, if_true, if_false, ite_true, ite_false, Bool.false_eq_true, Bool.true_eq_false, Bool.true_and, Bool.and_true, Bool.false_and, Bool.and_false, Bool.not_true, Bool.not_false, false_implies, true_implies, forall_const, implies_true, bin_add, bin_sub, bin_mul, bin_fdiv, bin_mod, bin_adds, bin_addt, bin_addl, bin_mull, bin_mult, cmp_lt, cmp_le, cmp_gt, cmp_ge, cmp_eqi, cmp_nei, cmp_eqb, cmp_eqs, tru_bl, tru_int, tru_non, tru_tup, tru_lst, tru_frz, ix_tup, len_tup, tpl_tup, lsl_tup, slc_tup, seq_tup, ix_lst, len_lst, tpl_lst, lsl_lst, slc_lst, seq_lst, ix_frz, len_frz, tpl_frz, lsl_frz, slc_frz, seq_frz, len_str, blt_abs, blt_int, blt_intb, blt_max, blt_min, blt_str, blt_all, blt_any, blt_sum, opt_0, opt_1, rng_1, rng_2, atI_0, atI_1, atI_2, atI_3, atI_4, ixN_20, ixN_21, ty_bl_int, ty_bl_bool, ty_bl_str, ty_bl_tuple, ty_bl_list, ht_bl, nn_bl, mu_bl, ty_int_int, ty_int_bool, ty_int_str, ty_int_tuple, ty_int_list, ht_int, nn_int, mu_int, ty_str_int, ty_str_bool, ty_str_str, ty_str_tuple, ty_str_list, ht_str, nn_str, mu_str, ty_tup_int, ty_tup_bool, ty_tup_str, ty_tup_tuple, ty_tup_list, ht_tup, nn_tup, mu_tup, ty_lst_int, ty_lst_bool, ty_lst_str, ty_lst_tuple, ty_lst_list, ht_lst, nn_lst, mu_lst, ty_frz_int, ty_frz_bool, ty_frz_str, ty_frz_tuple, ty_frz_list, ht_frz, nn_frz, mu_frz, ty_non_int, ty_non_bool, ty_non_str, ty_non_tuple, ty_non_list, ht_non, nn_non, mu_non, List.map_cons, List.map_nil, exists_eq_left', decide_eq_true_eq, exists_eq_left, List.length_cons, List.length_nil, Nat.reduceAdd, Int.reduceEq, Int.reduceLT, Int.reduceLE, Int.reduceNeg, decide_true, decide_false, Cl.own.injEq, List.mem_cons, List.not_mem_nil, or_false, forall_eq_or_imp, forall_eq, Option.some.injEq, s_is_integer, fr_is_integer, p_is_integer, s_is_count, fr_is_count, p_is_count, s_check_count, fr_check_count, p_check_count, s_left_over, fr_left_over, p_left_over, s_left_by_turns, fr_left_by_turns, p_left_by_turns, s__law_state, fr__law_state, p__law_state, s__law_take, fr__law_take, p__law_take, s__law_is_whole, fr__law_is_whole, p__law_is_whole, s__law_same_v, fr__law_same_v, p__law_same_v, s__law_same_0, fr__law_same_0, p__law_same_0, s__law_told, fr__law_told, p__law_told, s__law_all_malformed, fr__law_all_malformed, p__law_all_malformed, s__law_great, fr__law_great, p__law_great, s__law_left, fr__law_left, p__law_left, s__law_turns, fr__law_turns, p__law_turns, s_law, fr_law, p_law, isI]
    by_cases h : lo ≤ i
    · simp only [h, decide_true, if_true]
      simpa [cnt, h] using hp
    · simp only [h, decide_false]
      simpa [cnt, h] using hp
  | _ => simpa [cnt, isI] using hp
theorem g_check_count : Good tx.T tx.ek f_check_count := by
  refine goodV rfl rfl (by decide) fun ds P Ex h => ?_
  obtain ⟨d, lo, hi, rfl, hd, h1, h2⟩ := h
  refine ⟨rfl, ?_⟩
  show wS _ b_check_count [.val d, .val (.int lo), .val (.int hi)] _
  unfold b_check_count
  try simp only [st_for, st_nil, st_expr, st_asg, st_asgl, st_unp, st_par, st_app, st_seti, st_ret, st_retn, st_ife, st_brk, st_cnt, st_rmal, st_tr, wRet, e_var, e_int, e_bl, e_non, e_str, e_fnv, e_gint, e_bin, e_neg, e_not, e_cmp, e_chn, e_isn, e_ntn, e_and, e_or, e_ite, e_tup, e_lst, e_call, e_cio, e_clv, e_blt, e_isi, e_ix, e_slc, e_rev, e_lrng, e_lc, e_met, wA, wP, wAnd, wOr, wT, wTA, wTO, wI, wCs, wHnd, pk, at_, put, putAll, putCs, wTgt, rng_1, rng_2, cellOf, frE, frF, frB, isOwn, isOwnL, Op.rd, Cl.datum, List.getElem?_cons_zero, List.getElem?_cons_succ, List.getElem?_nil, Option.getD_some, Option.getD_none, List.set_cons_zero, List.set_cons_succ, ne_eq, reduceCtorEq, not_false_eq_true, not_true_eq_false, true_and, and_true, if_true, if_false, ite_true, ite_false, Bool.false_eq_true, Bool.true_eq_false, Bool.true_and, Bool.and_true, Bool.false_and, Bool.and_false, Bool.not_true, Bool.not_false, false_implies, true_implies, forall_const, implies_true, bin_add, bin_sub, bin_mul, bin_fdiv, bin_mod, bin_adds, bin_addt, bin_addl, bin_mull, bin_mult, cmp_lt, cmp_le, cmp_gt, cmp_ge, cmp_eqi, cmp_nei, cmp_eqb, cmp_eqs, tru_bl, tru_int, tru_non, tru_tup, tru_lst, tru_frz, ix_tup, len_tup, tpl_tup, lsl_tup, slc_tup, seq_tup, ix_lst, len_lst, tpl_lst, lsl_lst, slc_lst, seq_lst, ix_frz, len_frz, tpl_frz, lsl_frz, slc_frz, seq_frz, len_str, blt_abs, blt_int, blt_intb, blt_max, blt_min, blt_str, blt_all, blt_any, blt_sum, opt_0, opt_1, rng_1, rng_2, atI_0, atI_1, atI_2, atI_3, atI_4, ixN_20, ixN_21, ty_bl_int, ty_bl_bool, ty_bl_str, ty_bl_tuple, ty_bl_list, ht_bl, nn_bl, mu_bl, ty_int_int, ty_int_bool, ty_int_str, ty_int_tuple, ty_int_list, ht_int, nn_int, mu_int, ty_str_int, ty_str_bool, ty_str_str, ty_str_tuple, ty_str_list, ht_str, nn_str, mu_str, ty_tup_int, ty_tup_bool, ty_tup_str, ty_tup_tuple, ty_tup_list, ht_tup, nn_tup, mu_tup, ty_lst_int, ty_lst_bool, ty_lst_str, ty_lst_tuple, ty_lst_list, ht_lst, nn_lst, mu_lst, ty_frz_int, ty_frz_bool, ty_frz_str, ty_frz_tuple, ty_frz_list, ht_frz, nn_frz, mu_frz, ty_non_int, ty_non_bool, ty_non_str, ty_non_tuple, ty_non_list, ht_non, nn_non, mu_non, List.map_cons, List.map_nil, exists_eq_left', decide_eq_true_eq, exists_eq_left, List.length_cons, List.length_nil, Nat.reduceAdd, Int.reduceEq, Int.reduceLT, Int.reduceLE, Int.reduceNeg, decide_true, decide_false, Cl.own.injEq, List.mem_cons, List.not_mem_nil, or_false, forall_eq_or_imp, forall_eq, Option.some.injEq, s_is_integer, fr_is_integer, p_is_integer, s_is_count, fr_is_count, p_is_count, s_check_count, fr_check_count, p_check_count, s_left_over, fr_left_over, p_left_over, s_left_by_turns, fr_left_by_turns, p_left_by_turns, s__law_state, fr__law_state, p__law_state, s__law_take, fr__law_take, p__law_take, s__law_is_whole, fr__law_is_whole, p__law_is_whole, s__law_same_v, fr__law_same_v, p__law_same_v, s__law_same_0, fr__law_same_0, p__law_same_0, s__law_told, fr__law_told, p__law_told, s__law_all_malformed, fr__law_all_malformed, p__law_all_malformed, s__law_great, fr__law_great, p__law_great, s__law_left, fr__law_left, p__law_left, s__law_turns, fr__law_turns, p__law_turns, s_law, fr_law, p_law]
  refine ⟨d, lo, hi, rfl, hd, ?_⟩
  try simp only [st_for, st_nil, st_expr, st_asg, st_asgl, st_unp, st_par, st_app, st_seti, st_ret, st_retn, st_ife, st_brk, st_cnt, st_rmal, st_tr, wRet, e_var, e_int, e_bl, e_non, e_str, e_fnv, e_gint, e_bin, e_neg, e_not, e_cmp, e_chn, e_isn, e_ntn, e_and, e_or, e_ite, e_tup, e_lst, e_call, e_cio, e_clv, e_blt, e_isi, e_ix, e_slc, e_rev, e_lrng, e_lc, e_met, wA, wP, wAnd, wOr, wT, wTA, wTO, wI, wCs, wHnd, pk, at_, put, putAll, putCs, wTgt, rng_1, rng_2, cellOf, frE, frF, frB, isOwn, isOwnL, Op.rd, Cl.datum, List.getElem?_cons_zero, List.getElem?_cons_succ, List.getElem?_nil, Option.getD_some, Option.getD_none, List.set_cons_zero, List.set_cons_succ, ne_eq, reduceCtorEq, not_false_eq_true, not_true_eq_false, true_and, and_true, if_true, if_false, ite_true, ite_false, Bool.false_eq_true, Bool.true_eq_false, Bool.true_and, Bool.and_true, Bool.false_and, Bool.and_false, Bool.not_true, Bool.not_false, false_implies, true_implies, forall_const, implies_true, bin_add, bin_sub, bin_mul, bin_fdiv, bin_mod, bin_adds, bin_addt, bin_addl, bin_mull, bin_mult, cmp_lt, cmp_le, cmp_gt, cmp_ge, cmp_eqi, cmp_nei, cmp_eqb, cmp_eqs, tru_bl, tru_int, tru_non, tru_tup, tru_lst, tru_frz, ix_tup, len_tup, tpl_tup, lsl_tup, slc_tup, seq_tup, ix_lst, len_lst, tpl_lst, lsl_lst, slc_lst, seq_lst, ix_frz, len_frz, tpl_frz, lsl_frz, slc_frz, seq_frz, len_str, blt_abs, blt_int, blt_intb, blt_max, blt_min, blt_str, blt_all, blt_any, blt_sum, opt_0, opt_1, rng_1, rng_2, atI_0, atI_1, atI_2, atI_3, atI_4, ixN_20, ixN_21, ty_bl_int, ty_bl_bool, ty_bl_str, ty_bl_tuple, ty_bl_list, ht_bl, nn_bl, mu_bl, ty_int_int, ty_int_bool, ty_int_str, ty_int_tuple, ty_int_list, ht_int, nn_int, mu_int, ty_str_int, ty_str_bool, ty_str_str, ty_str_tuple, ty_str_list, ht_str, nn_str, mu_str, ty_tup_int, ty_tup_bool, ty_tup_str, ty_tup_tuple, ty_tup_list, ht_tup, nn_tup, mu_tup, ty_lst_int, ty_lst_bool, ty_lst_str, ty_lst_tuple, ty_lst_list, ht_lst, nn_lst, mu_lst, ty_frz_int, ty_frz_bool, ty_frz_str, ty_frz_tuple, ty_frz_list, ht_frz, nn_frz, mu_frz, ty_non_int, ty_non_bool, ty_non_str, ty_non_tuple, ty_non_list, ht_non, nn_non, mu_non, List.map_cons, List.map_nil, exists_eq_left', decide_eq_true_eq, exists_eq_left, List.length_cons, List.length_nil, Nat.reduceAdd, Int.reduceEq, Int.reduceLT, Int.reduceLE, Int.reduceNeg, decide_true, decide_false, Cl.own.injEq, List.mem_cons, List.not_mem_nil, or_false, forall_eq_or_imp, forall_eq, Option.some.injEq, s_is_integer, fr_is_integer, p_is_integer, s_is_count, fr_is_count, p_is_count, s_check_count, fr_check_count, p_check_count, s_left_over, fr_left_over, p_left_over, s_left_by_turns, fr_left_by_turns, p_left_by_turns, s__law_state, fr__law_state, p__law_state, s__law_take, fr__law_take, p__law_take, s__law_is_whole, fr__law_is_whole, p__law_is_whole, s__law_same_v, fr__law_same_v, p__law_same_v, s__law_same_0, fr__law_same_0, p__law_same_0, s__law_told, fr__law_told, p__law_told, s__law_all_malformed, fr__law_all_malformed, p__law_all_malformed, s__law_great, fr__law_great, p__law_great, s__law_left, fr__law_left, p__law_left, s__law_turns, fr__law_turns, p__law_turns, s_law, fr_law, p_law]
  cases hc : cnt d lo hi
  · simpa using h2 hc
  · simpa using h1 hc
theorem fm {a m : Int} (h : 0 < m) : 0 ≤ a.fmod m ∧ a.fmod m < m := ⟨Int.fmod_nonneg_of_pos a h, Int.fmod_lt_of_pos a h⟩
theorem g__law_take : Good tx.T tx.ek f__law_take := by
  refine goodI rfl (by decide) fun ds P Ex h => ?_
  obtain ⟨a, b, m, rfl, hm, hm2, hp⟩ := h
  refine ⟨_, _, rfl, rfl, ?_⟩
  show wS _ b__law_take [.own (.lst [.int a, .int b]), .val (.int m), .emp] _
  unfold b__law_take
  try simp only [st_for, st_nil, st_expr, st_asg, st_asgl, st_unp, st_par, st_app, st_seti, st_ret, st_retn, st_ife, st_brk, st_cnt, st_rmal, st_tr, wRet, e_var, e_int, e_bl, e_non, e_str, e_fnv, e_gint, e_bin, e_neg, e_not, e_cmp, e_chn, e_isn, e_ntn, e_and, e_or, e_ite, e_tup, e_lst, e_call, e_cio, e_clv, e_blt, e_isi, e_ix, e_slc, e_rev, e_lrng, e_lc, e_met, wA, wP, wAnd, wOr, wT, wTA, wTO, wI, wCs, wHnd, pk, at_, put, putAll, putCs, wTgt, rng_1, rng_2, cellOf, frE, frF, frB, isOwn, isOwnL, Op.rd, Cl.datum, List.getElem?_cons_zero, List.getElem?_cons_succ, List.getElem?_nil, Option.getD_some, Option.getD_none, List.set_cons_zero, List.set_cons_succ, ne_eq, reduceCtorEq, not_false_eq_true, not_true_eq_false, true_and, and_true, if_true, if_false, ite_true, ite_false, Bool.false_eq_true, Bool.true_eq_false, Bool.true_and, Bool.and_true, Bool.false_and, Bool.and_false, Bool.not_true, Bool.not_false, false_implies, true_implies, forall_const, implies_true, bin_add, bin_sub, bin_mul, bin_fdiv, bin_mod, bin_adds, bin_addt, bin_addl, bin_mull, bin_mult, cmp_lt, cmp_le, cmp_gt, cmp_ge, cmp_eqi, cmp_nei, cmp_eqb, cmp_eqs, tru_bl, tru_int, tru_non, tru_tup, tru_lst, tru_frz, ix_tup, len_tup, tpl_tup, lsl_tup, slc_tup, seq_tup, ix_lst, len_lst, tpl_lst, lsl_lst, slc_lst, seq_lst, ix_frz, len_frz, tpl_frz, lsl_frz, slc_frz, seq_frz, len_str, blt_abs, blt_int, blt_intb, blt_max, blt_min, blt_str, blt_all, blt_any, blt_sum, opt_0, opt_1, rng_1, rng_2, atI_0, atI_1, atI_2, atI_3, atI_4, ixN_20, ixN_21, ty_bl_int, ty_bl_bool, ty_bl_str, ty_bl_tuple, ty_bl_list, ht_bl, nn_bl, mu_bl, ty_int_int, ty_int_bool, ty_int_str, ty_int_tuple, ty_int_list, ht_int, nn_int, mu_int, ty_str_int, ty_str_bool, ty_str_str, ty_str_tuple, ty_str_list, ht_str, nn_str, mu_str, ty_tup_int, ty_tup_bool, ty_tup_str, ty_tup_tuple, ty_tup_list, ht_tup, nn_tup, mu_tup, ty_lst_int, ty_lst_bool, ty_lst_str, ty_lst_tuple, ty_lst_list, ht_lst, nn_lst, mu_lst, ty_frz_int, ty_frz_bool, ty_frz_str, ty_frz_tuple, ty_frz_list, ht_frz, nn_frz, mu_frz, ty_non_int, ty_non_bool, ty_non_str, ty_non_tuple, ty_non_list, ht_non, nn_non, mu_non, List.map_cons, List.map_nil, exists_eq_left', decide_eq_true_eq, exists_eq_left, List.length_cons, List.length_nil, Nat.reduceAdd, Int.reduceEq, Int.reduceLT, Int.reduceLE, Int.reduceNeg, decide_true, decide_false, Cl.own.injEq, List.mem_cons, List.not_mem_nil, or_false, forall_eq_or_imp, forall_eq, Option.some.injEq, s_is_integer, fr_is_integer, p_is_integer, s_is_count, fr_is_count, p_is_count, s_check_count, fr_check_count, p_check_count, s_left_over, fr_left_over, p_left_over, s_left_by_turns, fr_left_by_turns, p_left_by_turns, s__law_state, fr__law_state, p__law_state, s__law_take, fr__law_take, p__law_take, s__law_is_whole, fr__law_is_whole, p__law_is_whole, s__law_same_v, fr__law_same_v, p__law_same_v, s__law_same_0, fr__law_same_0, p__law_same_0, s__law_told, fr__law_told, p__law_told, s__law_all_malformed, fr__law_all_malformed, p__law_all_malformed, s__law_great, fr__law_great, p__law_great, s__law_left, fr__law_left, p__law_left, s__law_turns, fr__law_turns, p__law_turns, s_law, fr_law, p_law]
  split
  · exact ⟨by omega, divOk hm hm2, hp _ _ _ (fm hm).1 (fm hm).2⟩
  · exact ⟨mulR (by omega) (by omega), divOk (by omega) (by omega), by omega, hp _ _ _ (fm hm).1 (fm hm).2⟩
theorem g__law_state : Good tx.T tx.ek f__law_state := by
  refine goodF rfl rfl (by decide) fun ds P Ex h => ?_
  obtain ⟨ns, rfl, hp⟩ := h
  refine ⟨rfl, ?_⟩
  show wS _ b__law_state [.val (.frz (ns.map D.int)), .emp, .emp, .emp] _
  unfold b__law_state
  try simp only [st_for, st_nil, st_expr, st_asg, st_asgl, st_unp, st_par, st_app, st_seti, st_ret, st_retn, st_ife, st_brk, st_cnt, st_rmal, st_tr, wRet, e_var, e_int, e_bl, e_non, e_str, e_fnv, e_gint, e_bin, e_neg, e_not, e_cmp, e_chn, e_isn, e_ntn, e_and, e_or, e_ite, e_tup, e_lst, e_call, e_cio, e_clv, e_blt, e_isi, e_ix, e_slc, e_rev, e_lrng, e_lc, e_met, wA, wP, wAnd, wOr, wT, wTA, wTO, wI, wCs, wHnd, pk, at_, put, putAll, putCs, wTgt, rng_1, rng_2, cellOf, frE, frF, frB, isOwn, isOwnL, Op.rd, Cl.datum, List.getElem?_cons_zero, List.getElem?_cons_succ, List.getElem?_nil, Option.getD_some, Option.getD_none, List.set_cons_zero, List.set_cons_succ, ne_eq, reduceCtorEq, not_false_eq_true, not_true_eq_false, true_and, and_true, if_true, if_false, ite_true, ite_false, Bool.false_eq_true, Bool.true_eq_false, Bool.true_and, Bool.and_true, Bool.false_and, Bool.and_false, Bool.not_true, Bool.not_false, false_implies, true_implies, forall_const, implies_true, bin_add, bin_sub, bin_mul, bin_fdiv, bin_mod, bin_adds, bin_addt, bin_addl, bin_mull, bin_mult, cmp_lt, cmp_le, cmp_gt, cmp_ge, cmp_eqi, cmp_nei, cmp_eqb, cmp_eqs, tru_bl, tru_int, tru_non, tru_tup, tru_lst, tru_frz, ix_tup, len_tup, tpl_tup, lsl_tup, slc_tup, seq_tup, ix_lst, len_lst, tpl_lst, lsl_lst, slc_lst, seq_lst, ix_frz, len_frz, tpl_frz, lsl_frz, slc_frz, seq_frz, len_str, blt_abs, blt_int, blt_intb, blt_max, blt_min, blt_str, blt_all, blt_any, blt_sum, opt_0, opt_1, rng_1, rng_2, atI_0, atI_1, atI_2, atI_3, atI_4, ixN_20, ixN_21, ty_bl_int, ty_bl_bool, ty_bl_str, ty_bl_tuple, ty_bl_list, ht_bl, nn_bl, mu_bl, ty_int_int, ty_int_bool, ty_int_str, ty_int_tuple, ty_int_list, ht_int, nn_int, mu_int, ty_str_int, ty_str_bool, ty_str_str, ty_str_tuple, ty_str_list, ht_str, nn_str, mu_str, ty_tup_int, ty_tup_bool, ty_tup_str, ty_tup_tuple, ty_tup_list, ht_tup, nn_tup, mu_tup, ty_lst_int, ty_lst_bool, ty_lst_str, ty_lst_tuple, ty_lst_list, ht_lst, nn_lst, mu_lst, ty_frz_int, ty_frz_bool, ty_frz_str, ty_frz_tuple, ty_frz_list, ht_frz, nn_frz, mu_frz, ty_non_int, ty_non_bool, ty_non_str, ty_non_tuple, ty_non_list, ht_non, nn_non, mu_non, List.map_cons, List.map_nil, exists_eq_left', decide_eq_true_eq, exists_eq_left, List.length_cons, List.length_nil, Nat.reduceAdd, Int.reduceEq, Int.reduceLT, Int.reduceLE, Int.reduceNeg, decide_true, decide_false, Cl.own.injEq, List.mem_cons, List.not_mem_nil, or_false, forall_eq_or_imp, forall_eq, Option.some.injEq, s_is_integer, fr_is_integer, p_is_integer, s_is_count, fr_is_count, p_is_count, s_check_count, fr_check_count, p_check_count, s_left_over, fr_left_over, p_left_over, s_left_by_turns, fr_left_by_turns, p_left_by_turns, s__law_state, fr__law_state, p__law_state, s__law_take, fr__law_take, p__law_take, s__law_is_whole, fr__law_is_whole, p__law_is_whole, s__law_same_v, fr__law_same_v, p__law_same_v, s__law_same_0, fr__law_same_0, p__law_same_0, s__law_told, fr__law_told, p__law_told, s__law_all_malformed, fr__law_all_malformed, p__law_all_malformed, s__law_great, fr__law_great, p__law_great, s__law_left, fr__law_left, p__law_left, s__law_turns, fr__law_turns, p__law_turns, s_law, fr_law, p_law]
  have hc : ∃ ms : List Int, cutD (ns.map D.int) none (some 63) = ms.map D.int := ⟨ns.take 63, by rw [cut_to (by omega), List.map_take]; rfl⟩
  obtain ⟨ms, hc⟩ := hc
  rw [hc]
  refine forS_rule (fun _ env => ∃ (a b : Int) (c : Cl), env = [.val (.frz (ns.map D.int)), .val (.int a), .val (.int b), c]) ⟨0, 1, .emp, rfl⟩ ?_ ?_
  · rintro i d env nx hd ⟨a, b, c, rfl⟩ hn
    rw [List.getElem?_map] at hd
    cases e : ms[i]? with
    | none => rw [e] at hd; cases hd
    | some z =>
      rw [e] at hd
      cases hd
      try simp only [st_for, st_nil, st_expr, st_asg, st_asgl, st_unp, st_par, st_app, st_seti, st_ret, st_retn, st_ife, st_brk, st_cnt, st_rmal, st_tr, wRet, e_var, e_int, e_bl, e_non, e_str, e_fnv, e_gint, e_bin, e_neg, e_not, e_cmp, e_chn, e_isn, e_ntn, e_and, e_or, e_ite, e_tup, e_lst, e_call, e_cio, e_clv, e_blt, e_isi, e_ix, e_slc, e_rev, e_lrng, e_lc, e_met, wA, wP, wAnd, wOr, wT, wTA, wTO, wI, wCs, wHnd, pk, at_, put, putAll, putCs, wTgt, rng_1, rng_2, cellOf, frE, frF, frB, isOwn, isOwnL, Op.rd, Cl.datum, List.getElem?_cons_zero, List.getElem?_cons_succ, List.getElem?_nil, Option.getD_some, Option.getD_none, List.set_cons_zero, List.set_cons_succ, ne_eq, reduceCtorEq, not_false_eq_true, not_true_eq_false, true_and, and_true, if_true, if_false, ite_true, ite_false, Bool.false_eq_true, Bool.true_eq_false, Bool.true_and, Bool.and_true, Bool.false_and, Bool.and_false, Bool.not_true, Bool.not_false, false_implies, true_implies, forall_const, implies_true, bin_add, bin_sub, bin_mul, bin_fdiv, bin_mod, bin_adds, bin_addt, bin_addl, bin_mull, bin_mult, cmp_lt, cmp_le, cmp_gt, cmp_ge, cmp_eqi, cmp_nei, cmp_eqb, cmp_eqs, tru_bl, tru_int, tru_non, tru_tup, tru_lst, tru_frz, ix_tup, len_tup, tpl_tup, lsl_tup, slc_tup, seq_tup, ix_lst, len_lst, tpl_lst, lsl_lst, slc_lst, seq_lst, ix_frz, len_frz, tpl_frz, lsl_frz, slc_frz, seq_frz, len_str, blt_abs, blt_int, blt_intb, blt_max, blt_min, blt_str, blt_all, blt_any, blt_sum, opt_0, opt_1, rng_1, rng_2, atI_0, atI_1, atI_2, atI_3, atI_4, ixN_20, ixN_21, ty_bl_int, ty_bl_bool, ty_bl_str, ty_bl_tuple, ty_bl_list, ht_bl, nn_bl, mu_bl, ty_int_int, ty_int_bool, ty_int_str, ty_int_tuple, ty_int_list, ht_int, nn_int, mu_int, ty_str_int, ty_str_bool, ty_str_str, ty_str_tuple, ty_str_list, ht_str, nn_str, mu_str, ty_tup_int, ty_tup_bool, ty_tup_str, ty_tup_tuple, ty_tup_list, ht_tup, nn_tup, mu_tup, ty_lst_int, ty_lst_bool, ty_lst_str, ty_lst_tuple, ty_lst_list, ht_lst, nn_lst, mu_lst, ty_frz_int, ty_frz_bool, ty_frz_str, ty_frz_tuple, ty_frz_list, ht_frz, nn_frz, mu_frz, ty_non_int, ty_non_bool, ty_non_str, ty_non_tuple, ty_non_list, ht_non, nn_non, mu_non, List.map_cons, List.map_nil, exists_eq_left', decide_eq_true_eq, exists_eq_left, List.length_cons, List.length_nil, Nat.reduceAdd, Int.reduceEq, Int.reduceLT, Int.reduceLE, Int.reduceNeg, decide_true, decide_false, Cl.own.injEq, List.mem_cons, List.not_mem_nil, or_false, forall_eq_or_imp, forall_eq, Option.some.injEq, s_is_integer, fr_is_integer, p_is_integer, s_is_count, fr_is_count, p_is_count, s_check_count, fr_check_count, p_check_count, s_left_over, fr_left_over, p_left_over, s_left_by_turns, fr_left_by_turns, p_left_by_turns, s__law_state, fr__law_state, p__law_state, s__law_take, fr__law_take, p__law_take, s__law_is_whole, fr__law_is_whole, p__law_is_whole, s__law_same_v, fr__law_same_v, p__law_same_v, s__law_same_0, fr__law_same_0, p__law_same_0, s__law_told, fr__law_told, p__law_told, s__law_all_malformed, fr__law_all_malformed, p__law_all_malformed, s__law_great, fr__law_great, p__law_great, s__law_left, fr__law_left, p__law_left, s__law_turns, fr__law_turns, p__law_turns, s_law, fr_law, p_law]
      exact ⟨mulR (by omega) (by omega), mulR (by omega) (by omega), hn _ _ (.refl _ _) ⟨_, _, _, rfl⟩⟩
  · rintro env ⟨a, b, c, rfl⟩
    try simp only [st_for, st_nil, st_expr, st_asg, st_asgl, st_unp, st_par, st_app, st_seti, st_ret, st_retn, st_ife, st_brk, st_cnt, st_rmal, st_tr, wRet, e_var, e_int, e_bl, e_non, e_str, e_fnv, e_gint, e_bin, e_neg, e_not, e_cmp, e_chn, e_isn, e_ntn, e_and, e_or, e_ite, e_tup, e_lst, e_call, e_cio, e_clv, e_blt, e_isi, e_ix, e_slc, e_rev, e_lrng, e_lc, e_met, wA, wP, wAnd, wOr, wT, wTA, wTO, wI, wCs, wHnd, pk, at_, put, putAll, putCs, wTgt, rng_1, rng_2, cellOf, frE, frF, frB, isOwn, isOwnL, Op.rd, Cl.datum, List.getElem?_cons_zero, List.getElem?_cons_succ, List.getElem?_nil, Option.getD_some, Option.getD_none, List.set_cons_zero, List.set_cons_succ, ne_eq, reduceCtorEq, not_false_eq_true, not_true_eq_false, true_and, and_true, if_true, if_false, ite_true, ite_false, Bool.false_eq_true, Bool.true_eq_false, Bool.true_and, Bool.and_true, Bool.false_and, Bool.and_false, Bool.not_true, Bool.not_false, false_implies, true_implies, forall_const, implies_true, bin_add, bin_sub, bin_mul, bin_fdiv, bin_mod, bin_adds, bin_addt, bin_addl, bin_mull, bin_mult, cmp_lt, cmp_le, cmp_gt, cmp_ge, cmp_eqi, cmp_nei, cmp_eqb, cmp_eqs, tru_bl, tru_int, tru_non, tru_tup, tru_lst, tru_frz, ix_tup, len_tup, tpl_tup, lsl_tup, slc_tup, seq_tup, ix_lst, len_lst, tpl_lst, lsl_lst, slc_lst, seq_lst, ix_frz, len_frz, tpl_frz, lsl_frz, slc_frz, seq_frz, len_str, blt_abs, blt_int, blt_intb, blt_max, blt_min, blt_str, blt_all, blt_any, blt_sum, opt_0, opt_1, rng_1, rng_2, atI_0, atI_1, atI_2, atI_3, atI_4, ixN_20, ixN_21, ty_bl_int, ty_bl_bool, ty_bl_str, ty_bl_tuple, ty_bl_list, ht_bl, nn_bl, mu_bl, ty_int_int, ty_int_bool, ty_int_str, ty_int_tuple, ty_int_list, ht_int, nn_int, mu_int, ty_str_int, ty_str_bool, ty_str_str, ty_str_tuple, ty_str_list, ht_str, nn_str, mu_str, ty_tup_int, ty_tup_bool, ty_tup_str, ty_tup_tuple, ty_tup_list, ht_tup, nn_tup, mu_tup, ty_lst_int, ty_lst_bool, ty_lst_str, ty_lst_tuple, ty_lst_list, ht_lst, nn_lst, mu_lst, ty_frz_int, ty_frz_bool, ty_frz_str, ty_frz_tuple, ty_frz_list, ht_frz, nn_frz, mu_frz, ty_non_int, ty_non_bool, ty_non_str, ty_non_tuple, ty_non_list, ht_non, nn_non, mu_non, List.map_cons, List.map_nil, exists_eq_left', decide_eq_true_eq, exists_eq_left, List.length_cons, List.length_nil, Nat.reduceAdd, Int.reduceEq, Int.reduceLT, Int.reduceLE, Int.reduceNeg, decide_true, decide_false, Cl.own.injEq, List.mem_cons, List.not_mem_nil, or_false, forall_eq_or_imp, forall_eq, Option.some.injEq, s_is_integer, fr_is_integer, p_is_integer, s_is_count, fr_is_count, p_is_count, s_check_count, fr_check_count, p_check_count, s_left_over, fr_left_over, p_left_over, s_left_by_turns, fr_left_by_turns, p_left_by_turns, s__law_state, fr__law_state, p__law_state, s__law_take, fr__law_take, p__law_take, s__law_is_whole, fr__law_is_whole, p__law_is_whole, s__law_same_v, fr__law_same_v, p__law_same_v, s__law_same_0, fr__law_same_0, p__law_same_0, s__law_told, fr__law_told, p__law_told, s__law_all_malformed, fr__law_all_malformed, p__law_all_malformed, s__law_great, fr__law_great, p__law_great, s__law_left, fr__law_left, p__law_left, s__law_turns, fr__law_turns, p__law_turns, s_law, fr_law, p_law]
    split
    · exact hp _ _
    · exact hp _ _
theorem cnt_int {i lo hi : Int} : cnt (.int i) lo hi = true ↔ lo ≤ i ∧ i ≤ hi := by simp [cnt]
/-- the two checks ahead -/
theorem cnt_of {d : D} {lo hi : Int} (h : cnt d lo hi = true) : ∃ i, d = .int i ∧ lo ≤ i ∧ i ≤ hi := by
  cases d with
  | int i => exact ⟨i, rfl, cnt_int.mp h⟩
  | _ => simp [cnt] at h
theorem g_left_over : Good tx.T tx.ek f_left_over := by
  refine goodV rfl rfl (by decide) fun ds P Ex h => ?_
  obtain ⟨d, e, rfl, hd, he, hx, hp⟩ := h
  refine ⟨rfl, ?_⟩
  show wS _ b_left_over [.val d, .val e, .emp] _
  unfold b_left_over
  try simp only [st_for, st_nil, st_expr, st_asg, st_asgl, st_unp, st_par, st_app, st_seti, st_ret, st_retn, st_ife, st_brk, st_cnt, st_rmal, st_tr, wRet, e_var, e_int, e_bl, e_non, e_str, e_fnv, e_gint, e_bin, e_neg, e_not, e_cmp, e_chn, e_isn, e_ntn, e_and, e_or, e_ite, e_tup, e_lst, e_call, e_cio, e_clv, e_blt, e_isi, e_ix, e_slc, e_rev, e_lrng, e_lc, e_met, wA, wP, wAnd, wOr, wT, wTA, wTO, wI, wCs, wHnd, pk, at_, put, putAll, putCs, wTgt, rng_1, rng_2, cellOf, frE, frF, frB, isOwn, isOwnL, Op.rd, Cl.datum, List.getElem?_cons_zero, List.getElem?_cons_succ, List.getElem?_nil, Option.getD_some, Option.getD_none, List.set_cons_zero, List.set_cons_succ, ne_eq, reduceCtorEq, not_false_eq_true, not_true_eq_false, true_and, and_true, if_true, if_false, ite_true, ite_false, Bool.false_eq_true, Bool.true_eq_false, Bool.true_and, Bool.and_true, Bool.false_and, Bool.and_false, Bool.not_true, Bool.not_false, false_implies, true_implies, forall_const, implies_true, bin_add, bin_sub, bin_mul, bin_fdiv, bin_mod, bin_adds, bin_addt, bin_addl, bin_mull, bin_mult, cmp_lt, cmp_le, cmp_gt, cmp_ge, cmp_eqi, cmp_nei, cmp_eqb, cmp_eqs, tru_bl, tru_int, tru_non, tru_tup, tru_lst, tru_frz, ix_tup, len_tup, tpl_tup, lsl_tup, slc_tup, seq_tup, ix_lst, len_lst, tpl_lst, lsl_lst, slc_lst, seq_lst, ix_frz, len_frz, tpl_frz, lsl_frz, slc_frz, seq_frz, len_str, blt_abs, blt_int, blt_intb, blt_max, blt_min, blt_str, blt_all, blt_any, blt_sum, opt_0, opt_1, rng_1, rng_2, atI_0, atI_1, atI_2, atI_3, atI_4, ixN_20, ixN_21, ty_bl_int, ty_bl_bool, ty_bl_str, ty_bl_tuple, ty_bl_list, ht_bl, nn_bl, mu_bl, ty_int_int, ty_int_bool, ty_int_str, ty_int_tuple, ty_int_list, ht_int, nn_int, mu_int, ty_str_int, ty_str_bool, ty_str_str, ty_str_tuple, ty_str_list, ht_str, nn_str, mu_str, ty_tup_int, ty_tup_bool, ty_tup_str, ty_tup_tuple, ty_tup_list, ht_tup, nn_tup, mu_tup, ty_lst_int, ty_lst_bool, ty_lst_str, ty_lst_tuple, ty_lst_list, ht_lst, nn_lst, mu_lst, ty_frz_int, ty_frz_bool, ty_frz_str, ty_frz_tuple, ty_frz_list, ht_frz, nn_frz, mu_frz, ty_non_int, ty_non_bool, ty_non_str, ty_non_tuple, ty_non_list, ht_non, nn_non, mu_non, List.map_cons, List.map_nil, exists_eq_left', decide_eq_true_eq, exists_eq_left, List.length_cons, List.length_nil, Nat.reduceAdd, Int.reduceEq, Int.reduceLT, Int.reduceLE, Int.reduceNeg, decide_true, decide_false, Cl.own.injEq, List.mem_cons, List.not_mem_nil, or_false, forall_eq_or_imp, forall_eq, Option.some.injEq, s_is_integer, fr_is_integer, p_is_integer, s_is_count, fr_is_count, p_is_count, s_check_count, fr_check_count, p_check_count, s_left_over, fr_left_over, p_left_over, s_left_by_turns, fr_left_by_turns, p_left_by_turns, s__law_state, fr__law_state, p__law_state, s__law_take, fr__law_take, p__law_take, s__law_is_whole, fr__law_is_whole, p__law_is_whole, s__law_same_v, fr__law_same_v, p__law_same_v, s__law_same_0, fr__law_same_0, p__law_same_0, s__law_told, fr__law_told, p__law_told, s__law_all_malformed, fr__law_all_malformed, p__law_all_malformed, s__law_great, fr__law_great, p__law_great, s__law_left, fr__law_left, p__law_left, s__law_turns, fr__law_turns, p__law_turns, s_law, fr_law, p_law]
  refine ⟨d, _, _, rfl, hd, fun h1 => ?_, fun h1 => hx (by unfold maxN; rw [h1]; rfl)⟩
  refine ⟨e, _, _, rfl, he, fun h2 => ?_, fun h2 => hx (by rw [h2, Bool.and_false])⟩
  obtain ⟨n, rfl, n1, n2⟩ := cnt_of h1
  obtain ⟨q, rfl, q1, q2⟩ := cnt_of h2
  obtain ⟨m, hm⟩ : ∃ m : Nat, n = ((m + 1 : Nat) : Int) := ⟨n.toNat - 1, by omega⟩
  obtain ⟨K, k1, k2, k3⟩ := dk_end q1 m
  rw [← hm] at k1 k2 k3
  refine whl_rule (fun f env => ∃ k, k + f = K ∧ env = [.val (.int n), .val (.int q), .val (.int (dk q k))]) ⟨K, _, .refl _ _, 0, by omega, rfl⟩ ?_
  rintro f env ⟨k, hk, rfl⟩
  try simp only [st_for, st_nil, st_expr, st_asg, st_asgl, st_unp, st_par, st_app, st_seti, st_ret, st_retn, st_ife, st_brk, st_cnt, st_rmal, st_tr, wRet, e_var, e_int, e_bl, e_non, e_str, e_fnv, e_gint, e_bin, e_neg, e_not, e_cmp, e_chn, e_isn, e_ntn, e_and, e_or, e_ite, e_tup, e_lst, e_call, e_cio, e_clv, e_blt, e_isi, e_ix, e_slc, e_rev, e_lrng, e_lc, e_met, wA, wP, wAnd, wOr, wT, wTA, wTO, wI, wCs, wHnd, pk, at_, put, putAll, putCs, wTgt, rng_1, rng_2, cellOf, frE, frF, frB, isOwn, isOwnL, Op.rd, Cl.datum, List.getElem?_cons_zero, List.getElem?_cons_succ, List.getElem?_nil, Option.getD_some, Option.getD_none, List.set_cons_zero, List.set_cons_succ, ne_eq, reduceCtorEq, not_false_eq_true, not_true_eq_false, true_and, and_true, if_true, if_false, ite_true, ite_false, Bool.false_eq_true, Bool.true_eq_false, Bool.true_and, Bool.and_true, Bool.false_and, Bool.and_false, Bool.not_true, Bool.not_false, false_implies, true_implies, forall_const, implies_true, bin_add, bin_sub, bin_mul, bin_fdiv, bin_mod, bin_adds, bin_addt, bin_addl, bin_mull, bin_mult, cmp_lt, cmp_le, cmp_gt, cmp_ge, cmp_eqi, cmp_nei, cmp_eqb, cmp_eqs, tru_bl, tru_int, tru_non, tru_tup, tru_lst, tru_frz, ix_tup, len_tup, tpl_tup, lsl_tup, slc_tup, seq_tup, ix_lst, len_lst, tpl_lst, lsl_lst, slc_lst, seq_lst, ix_frz, len_frz, tpl_frz, lsl_frz, slc_frz, seq_frz, len_str, blt_abs, blt_int, blt_intb, blt_max, blt_min, blt_str, blt_all, blt_any, blt_sum, opt_0, opt_1, rng_1, rng_2, atI_0, atI_1, atI_2, atI_3, atI_4, ixN_20, ixN_21, ty_bl_int, ty_bl_bool, ty_bl_str, ty_bl_tuple, ty_bl_list, ht_bl, nn_bl, mu_bl, ty_int_int, ty_int_bool, ty_int_str, ty_int_tuple, ty_int_list, ht_int, nn_int, mu_int, ty_str_int, ty_str_bool, ty_str_str, ty_str_tuple, ty_str_list, ht_str, nn_str, mu_str, ty_tup_int, ty_tup_bool, ty_tup_str, ty_tup_tuple, ty_tup_list, ht_tup, nn_tup, mu_tup, ty_lst_int, ty_lst_bool, ty_lst_str, ty_lst_tuple, ty_lst_list, ht_lst, nn_lst, mu_lst, ty_frz_int, ty_frz_bool, ty_frz_str, ty_frz_tuple, ty_frz_list, ht_frz, nn_frz, mu_frz, ty_non_int, ty_non_bool, ty_non_str, ty_non_tuple, ty_non_list, ht_non, nn_non, mu_non, List.map_cons, List.map_nil, exists_eq_left', decide_eq_true_eq, exists_eq_left, List.length_cons, List.length_nil, Nat.reduceAdd, Int.reduceEq, Int.reduceLT, Int.reduceLE, Int.reduceNeg, decide_true, decide_false, Cl.own.injEq, List.mem_cons, List.not_mem_nil, or_false, forall_eq_or_imp, forall_eq, Option.some.injEq, s_is_integer, fr_is_integer, p_is_integer, s_is_count, fr_is_count, p_is_count, s_check_count, fr_check_count, p_check_count, s_left_over, fr_left_over, p_left_over, s_left_by_turns, fr_left_by_turns, p_left_by_turns, s__law_state, fr__law_state, p__law_state, s__law_take, fr__law_take, p__law_take, s__law_is_whole, fr__law_is_whole, p__law_is_whole, s__law_same_v, fr__law_same_v, p__law_same_v, s__law_same_0, fr__law_same_0, p__law_same_0, s__law_told, fr__law_told, p__law_told, s__law_all_malformed, fr__law_all_malformed, p__law_all_malformed, s__law_great, fr__law_great, p__law_great, s__law_left, fr__law_left, p__law_left, s__law_turns, fr__law_turns, p__law_turns, s_law, fr_law, p_law]
  refine ⟨mulL (by omega) (by omega), ?_⟩
  by_cases hc : dk q k ≤ (q - 1) * n
  · simp only [hc, decide_true, if_true]
    try simp only [st_for, st_nil, st_expr, st_asg, st_asgl, st_unp, st_par, st_app, st_seti, st_ret, st_retn, st_ife, st_brk, st_cnt, st_rmal, st_tr, wRet, e_var, e_int, e_bl, e_non, e_str, e_fnv, e_gint, e_bin, e_neg, e_not, e_cmp, e_chn, e_isn, e_ntn, e_and, e_or, e_ite, e_tup, e_lst, e_call, e_cio, e_clv, e_blt, e_isi, e_ix, e_slc, e_rev, e_lrng, e_lc, e_met, wA, wP, wAnd, wOr, wT, wTA, wTO, wI, wCs, wHnd, pk, at_, put, putAll, putCs, wTgt, rng_1, rng_2, cellOf, frE, frF, frB, isOwn, isOwnL, Op.rd, Cl.datum, List.getElem?_cons_zero, List.getElem?_cons_succ, List.getElem?_nil, Option.getD_some, Option.getD_none, List.set_cons_zero, List.set_cons_succ, ne_eq, reduceCtorEq, not_false_eq_true, not_true_eq_false, true_and, and_true, if_true, if_false, ite_true, ite_false, Bool.false_eq_true, Bool.true_eq_false, Bool.true_and, Bool.and_true, Bool.false_and, Bool.and_false, Bool.not_true, Bool.not_false, false_implies, true_implies, forall_const, implies_true, bin_add, bin_sub, bin_mul, bin_fdiv, bin_mod, bin_adds, bin_addt, bin_addl, bin_mull, bin_mult, cmp_lt, cmp_le, cmp_gt, cmp_ge, cmp_eqi, cmp_nei, cmp_eqb, cmp_eqs, tru_bl, tru_int, tru_non, tru_tup, tru_lst, tru_frz, ix_tup, len_tup, tpl_tup, lsl_tup, slc_tup, seq_tup, ix_lst, len_lst, tpl_lst, lsl_lst, slc_lst, seq_lst, ix_frz, len_frz, tpl_frz, lsl_frz, slc_frz, seq_frz, len_str, blt_abs, blt_int, blt_intb, blt_max, blt_min, blt_str, blt_all, blt_any, blt_sum, opt_0, opt_1, rng_1, rng_2, atI_0, atI_1, atI_2, atI_3, atI_4, ixN_20, ixN_21, ty_bl_int, ty_bl_bool, ty_bl_str, ty_bl_tuple, ty_bl_list, ht_bl, nn_bl, mu_bl, ty_int_int, ty_int_bool, ty_int_str, ty_int_tuple, ty_int_list, ht_int, nn_int, mu_int, ty_str_int, ty_str_bool, ty_str_str, ty_str_tuple, ty_str_list, ht_str, nn_str, mu_str, ty_tup_int, ty_tup_bool, ty_tup_str, ty_tup_tuple, ty_tup_list, ht_tup, nn_tup, mu_tup, ty_lst_int, ty_lst_bool, ty_lst_str, ty_lst_tuple, ty_lst_list, ht_lst, nn_lst, mu_lst, ty_frz_int, ty_frz_bool, ty_frz_str, ty_frz_tuple, ty_frz_list, ht_frz, nn_frz, mu_frz, ty_non_int, ty_non_bool, ty_non_str, ty_non_tuple, ty_non_list, ht_non, nn_non, mu_non, List.map_cons, List.map_nil, exists_eq_left', decide_eq_true_eq, exists_eq_left, List.length_cons, List.length_nil, Nat.reduceAdd, Int.reduceEq, Int.reduceLT, Int.reduceLE, Int.reduceNeg, decide_true, decide_false, Cl.own.injEq, List.mem_cons, List.not_mem_nil, or_false, forall_eq_or_imp, forall_eq, Option.some.injEq, s_is_integer, fr_is_integer, p_is_integer, s_is_count, fr_is_count, p_is_count, s_check_count, fr_check_count, p_check_count, s_left_over, fr_left_over, p_left_over, s_left_by_turns, fr_left_by_turns, p_left_by_turns, s__law_state, fr__law_state, p__law_state, s__law_take, fr__law_take, p__law_take, s__law_is_whole, fr__law_is_whole, p__law_is_whole, s__law_same_v, fr__law_same_v, p__law_same_v, s__law_same_0, fr__law_same_0, p__law_same_0, s__law_told, fr__law_told, p__law_told, s__law_all_malformed, fr__law_all_malformed, p__law_all_malformed, s__law_great, fr__law_great, p__law_great, s__law_left, fr__law_left, p__law_left, s__law_turns, fr__law_turns, p__law_turns, s_law, fr_law, p_law]
    refine ⟨mulL (by omega) (by omega), divOk (by omega) (by omega), _, f - 1, .refl _ _, ?_, k + 1, ?_, rfl⟩
    · by_cases z : k = K
      · subst z; omega
      · omega
    · by_cases z : k = K
      · subst z; omega
      · omega
  · simp only [hc, if_false]
    have hkK : k = K := by
      by_cases z : k = K
      · exact z
      · exact absurd (k2 k (by omega)) hc
    subst hkK
    refine ⟨mulL (by omega) (by omega), ?_⟩
    rw [k3]
    have := hp n q rfl rfl n1 n2 q1 q2
    rw [show n.toNat - 1 = m by omega] at this
    exact this
theorem turn_loop {nx : Loca → Prop} {G : Gx} : True := trivial
theorem g_left_by_turns : Good tx.T tx.ek f_left_by_turns := by
  refine goodV rfl rfl (by decide) fun ds P Ex h => ?_
  obtain ⟨d, e, rfl, hd, he, hx, hp⟩ := h
  refine ⟨rfl, ?_⟩
  show wS _ b_left_by_turns [.val d, .val e, .emp, .emp] _
  unfold b_left_by_turns
  try simp only [st_for, st_nil, st_expr, st_asg, st_asgl, st_unp, st_par, st_app, st_seti, st_ret, st_retn, st_ife, st_brk, st_cnt, st_rmal, st_tr, wRet, e_var, e_int, e_bl, e_non, e_str, e_fnv, e_gint, e_bin, e_neg, e_not, e_cmp, e_chn, e_isn, e_ntn, e_and, e_or, e_ite, e_tup, e_lst, e_call, e_cio, e_clv, e_blt, e_isi, e_ix, e_slc, e_rev, e_lrng, e_lc, e_met, wA, wP, wAnd, wOr, wT, wTA, wTO, wI, wCs, wHnd, pk, at_, put, putAll, putCs, wTgt, rng_1, rng_2, cellOf, frE, frF, frB, isOwn, isOwnL, Op.rd, Cl.datum, List.getElem?_cons_zero, List.getElem?_cons_succ, List.getElem?_nil, Option.getD_some, Option.getD_none, List.set_cons_zero, List.set_cons_succ, ne_eq, reduceCtorEq, not_false_eq_true, not_true_eq_false, true_and, and_true, if_true, if_false, ite_true, ite_false, Bool.false_eq_true, Bool.true_eq_false, Bool.true_and, Bool.and_true, Bool.false_and, Bool.and_false, Bool.not_true, Bool.not_false, false_implies, true_implies, forall_const, implies_true, bin_add, bin_sub, bin_mul, bin_fdiv, bin_mod, bin_adds, bin_addt, bin_addl, bin_mull, bin_mult, cmp_lt, cmp_le, cmp_gt, cmp_ge, cmp_eqi, cmp_nei, cmp_eqb, cmp_eqs, tru_bl, tru_int, tru_non, tru_tup, tru_lst, tru_frz, ix_tup, len_tup, tpl_tup, lsl_tup, slc_tup, seq_tup, ix_lst, len_lst, tpl_lst, lsl_lst, slc_lst, seq_lst, ix_frz, len_frz, tpl_frz, lsl_frz, slc_frz, seq_frz, len_str, blt_abs, blt_int, blt_intb, blt_max, blt_min, blt_str, blt_all, blt_any, blt_sum, opt_0, opt_1, rng_1, rng_2, atI_0, atI_1, atI_2, atI_3, atI_4, ixN_20, ixN_21, ty_bl_int, ty_bl_bool, ty_bl_str, ty_bl_tuple, ty_bl_list, ht_bl, nn_bl, mu_bl, ty_int_int, ty_int_bool, ty_int_str, ty_int_tuple, ty_int_list, ht_int, nn_int, mu_int, ty_str_int, ty_str_bool, ty_str_str, ty_str_tuple, ty_str_list, ht_str, nn_str, mu_str, ty_tup_int, ty_tup_bool, ty_tup_str, ty_tup_tuple, ty_tup_list, ht_tup, nn_tup, mu_tup, ty_lst_int, ty_lst_bool, ty_lst_str, ty_lst_tuple, ty_lst_list, ht_lst, nn_lst, mu_lst, ty_frz_int, ty_frz_bool, ty_frz_str, ty_frz_tuple, ty_frz_list, ht_frz, nn_frz, mu_frz, ty_non_int, ty_non_bool, ty_non_str, ty_non_tuple, ty_non_list, ht_non, nn_non, mu_non, List.map_cons, List.map_nil, exists_eq_left', decide_eq_true_eq, exists_eq_left, List.length_cons, List.length_nil, Nat.reduceAdd, Int.reduceEq, Int.reduceLT, Int.reduceLE, Int.reduceNeg, decide_true, decide_false, Cl.own.injEq, List.mem_cons, List.not_mem_nil, or_false, forall_eq_or_imp, forall_eq, Option.some.injEq, s_is_integer, fr_is_integer, p_is_integer, s_is_count, fr_is_count, p_is_count, s_check_count, fr_check_count, p_check_count, s_left_over, fr_left_over, p_left_over, s_left_by_turns, fr_left_by_turns, p_left_by_turns, s__law_state, fr__law_state, p__law_state, s__law_take, fr__law_take, p__law_take, s__law_is_whole, fr__law_is_whole, p__law_is_whole, s__law_same_v, fr__law_same_v, p__law_same_v, s__law_same_0, fr__law_same_0, p__law_same_0, s__law_told, fr__law_told, p__law_told, s__law_all_malformed, fr__law_all_malformed, p__law_all_malformed, s__law_great, fr__law_great, p__law_great, s__law_left, fr__law_left, p__law_left, s__law_turns, fr__law_turns, p__law_turns, s_law, fr_law, p_law]
  refine ⟨d, _, _, rfl, hd, fun h1 => ?_, fun h1 => hx (by rw [h1]; rfl)⟩
  refine ⟨e, _, _, rfl, he, fun h2 => ?_, fun h2 => hx (by rw [h2, Bool.and_false])⟩
  obtain ⟨n, rfl, n1, n2⟩ := cnt_of h1
  obtain ⟨q, rfl, q1, q2⟩ := cnt_of h2
  try simp only [st_for, st_nil, st_expr, st_asg, st_asgl, st_unp, st_par, st_app, st_seti, st_ret, st_retn, st_ife, st_brk, st_cnt, st_rmal, st_tr, wRet, e_var, e_int, e_bl, e_non, e_str, e_fnv, e_gint, e_bin, e_neg, e_not, e_cmp, e_chn, e_isn, e_ntn, e_and, e_or, e_ite, e_tup, e_lst, e_call, e_cio, e_clv, e_blt, e_isi, e_ix, e_slc, e_rev, e_lrng, e_lc, e_met, wA, wP, wAnd, wOr, wT, wTA, wTO, wI, wCs, wHnd, pk, at_, put, putAll, putCs, wTgt, rng_1, rng_2, cellOf, frE, frF, frB, isOwn, isOwnL, Op.rd, Cl.datum, List.getElem?_cons_zero, List.getElem?_cons_succ, List.getElem?_nil, Option.getD_some, Option.getD_none, List.set_cons_zero, List.set_cons_succ, ne_eq, reduceCtorEq, not_false_eq_true, not_true_eq_false, true_and, and_true, if_true, if_false, ite_true, ite_false, Bool.false_eq_true, Bool.true_eq_false, Bool.true_and, Bool.and_true, Bool.false_and, Bool.and_false, Bool.not_true, Bool.not_false, false_implies, true_implies, forall_const, implies_true, bin_add, bin_sub, bin_mul, bin_fdiv, bin_mod, bin_adds, bin_addt, bin_addl, bin_mull, bin_mult, cmp_lt, cmp_le, cmp_gt, cmp_ge, cmp_eqi, cmp_nei, cmp_eqb, cmp_eqs, tru_bl, tru_int, tru_non, tru_tup, tru_lst, tru_frz, ix_tup, len_tup, tpl_tup, lsl_tup, slc_tup, seq_tup, ix_lst, len_lst, tpl_lst, lsl_lst, slc_lst, seq_lst, ix_frz, len_frz, tpl_frz, lsl_frz, slc_frz, seq_frz, len_str, blt_abs, blt_int, blt_intb, blt_max, blt_min, blt_str, blt_all, blt_any, blt_sum, opt_0, opt_1, rng_1, rng_2, atI_0, atI_1, atI_2, atI_3, atI_4, ixN_20, ixN_21, ty_bl_int, ty_bl_bool, ty_bl_str, ty_bl_tuple, ty_bl_list, ht_bl, nn_bl, mu_bl, ty_int_int, ty_int_bool, ty_int_str, ty_int_tuple, ty_int_list, ht_int, nn_int, mu_int, ty_str_int, ty_str_bool, ty_str_str, ty_str_tuple, ty_str_list, ht_str, nn_str, mu_str, ty_tup_int, ty_tup_bool, ty_tup_str, ty_tup_tuple, ty_tup_list, ht_tup, nn_tup, mu_tup, ty_lst_int, ty_lst_bool, ty_lst_str, ty_lst_tuple, ty_lst_list, ht_lst, nn_lst, mu_lst, ty_frz_int, ty_frz_bool, ty_frz_str, ty_frz_tuple, ty_frz_list, ht_frz, nn_frz, mu_frz, ty_non_int, ty_non_bool, ty_non_str, ty_non_tuple, ty_non_list, ht_non, nn_non, mu_non, List.map_cons, List.map_nil, exists_eq_left', decide_eq_true_eq, exists_eq_left, List.length_cons, List.length_nil, Nat.reduceAdd, Int.reduceEq, Int.reduceLT, Int.reduceLE, Int.reduceNeg, decide_true, decide_false, Cl.own.injEq, List.mem_cons, List.not_mem_nil, or_false, forall_eq_or_imp, forall_eq, Option.some.injEq, s_is_integer, fr_is_integer, p_is_integer, s_is_count, fr_is_count, p_is_count, s_check_count, fr_check_count, p_check_count, s_left_over, fr_left_over, p_left_over, s_left_by_turns, fr_left_by_turns, p_left_by_turns, s__law_state, fr__law_state, p__law_state, s__law_take, fr__law_take, p__law_take, s__law_is_whole, fr__law_is_whole, p__law_is_whole, s__law_same_v, fr__law_same_v, p__law_same_v, s__law_same_0, fr__law_same_0, p__law_same_0, s__law_told, fr__law_told, p__law_told, s__law_all_malformed, fr__law_all_malformed, p__law_all_malformed, s__law_great, fr__law_great, p__law_great, s__law_left, fr__law_left, p__law_left, s__law_turns, fr__law_turns, p__law_turns, s_law, fr_law, p_law]
  refine ⟨⟨by omega, by omega⟩, ⟨by omega, by omega⟩, ?_⟩
  refine forR_rule (fun i env => ∃ c, env = [.val (.int n), .val (.int q), .val (.int (pl q i)), c]) ⟨.emp, rfl⟩ ?_ ?_
  · rintro i env nx hi ⟨c, rfl⟩ hn
    try simp only [st_for, st_nil, st_expr, st_asg, st_asgl, st_unp, st_par, st_app, st_seti, st_ret, st_retn, st_ife, st_brk, st_cnt, st_rmal, st_tr, wRet, e_var, e_int, e_bl, e_non, e_str, e_fnv, e_gint, e_bin, e_neg, e_not, e_cmp, e_chn, e_isn, e_ntn, e_and, e_or, e_ite, e_tup, e_lst, e_call, e_cio, e_clv, e_blt, e_isi, e_ix, e_slc, e_rev, e_lrng, e_lc, e_met, wA, wP, wAnd, wOr, wT, wTA, wTO, wI, wCs, wHnd, pk, at_, put, putAll, putCs, wTgt, rng_1, rng_2, cellOf, frE, frF, frB, isOwn, isOwnL, Op.rd, Cl.datum, List.getElem?_cons_zero, List.getElem?_cons_succ, List.getElem?_nil, Option.getD_some, Option.getD_none, List.set_cons_zero, List.set_cons_succ, ne_eq, reduceCtorEq, not_false_eq_true, not_true_eq_false, true_and, and_true, if_true, if_false, ite_true, ite_false, Bool.false_eq_true, Bool.true_eq_false, Bool.true_and, Bool.and_true, Bool.false_and, Bool.and_false, Bool.not_true, Bool.not_false, false_implies, true_implies, forall_const, implies_true, bin_add, bin_sub, bin_mul, bin_fdiv, bin_mod, bin_adds, bin_addt, bin_addl, bin_mull, bin_mult, cmp_lt, cmp_le, cmp_gt, cmp_ge, cmp_eqi, cmp_nei, cmp_eqb, cmp_eqs, tru_bl, tru_int, tru_non, tru_tup, tru_lst, tru_frz, ix_tup, len_tup, tpl_tup, lsl_tup, slc_tup, seq_tup, ix_lst, len_lst, tpl_lst, lsl_lst, slc_lst, seq_lst, ix_frz, len_frz, tpl_frz, lsl_frz, slc_frz, seq_frz, len_str, blt_abs, blt_int, blt_intb, blt_max, blt_min, blt_str, blt_all, blt_any, blt_sum, opt_0, opt_1, rng_1, rng_2, atI_0, atI_1, atI_2, atI_3, atI_4, ixN_20, ixN_21, ty_bl_int, ty_bl_bool, ty_bl_str, ty_bl_tuple, ty_bl_list, ht_bl, nn_bl, mu_bl, ty_int_int, ty_int_bool, ty_int_str, ty_int_tuple, ty_int_list, ht_int, nn_int, mu_int, ty_str_int, ty_str_bool, ty_str_str, ty_str_tuple, ty_str_list, ht_str, nn_str, mu_str, ty_tup_int, ty_tup_bool, ty_tup_str, ty_tup_tuple, ty_tup_list, ht_tup, nn_tup, mu_tup, ty_lst_int, ty_lst_bool, ty_lst_str, ty_lst_tuple, ty_lst_list, ht_lst, nn_lst, mu_lst, ty_frz_int, ty_frz_bool, ty_frz_str, ty_frz_tuple, ty_frz_list, ht_frz, nn_frz, mu_frz, ty_non_int, ty_non_bool, ty_non_str, ty_non_tuple, ty_non_list, ht_non, nn_non, mu_non, List.map_cons, List.map_nil, exists_eq_left', decide_eq_true_eq, exists_eq_left, List.length_cons, List.length_nil, Nat.reduceAdd, Int.reduceEq, Int.reduceLT, Int.reduceLE, Int.reduceNeg, decide_true, decide_false, Cl.own.injEq, List.mem_cons, List.not_mem_nil, or_false, forall_eq_or_imp, forall_eq, Option.some.injEq, s_is_integer, fr_is_integer, p_is_integer, s_is_count, fr_is_count, p_is_count, s_check_count, fr_check_count, p_check_count, s_left_over, fr_left_over, p_left_over, s_left_by_turns, fr_left_by_turns, p_left_by_turns, s__law_state, fr__law_state, p__law_state, s__law_take, fr__law_take, p__law_take, s__law_is_whole, fr__law_is_whole, p__law_is_whole, s__law_same_v, fr__law_same_v, p__law_same_v, s__law_same_0, fr__law_same_0, p__law_same_0, s__law_told, fr__law_told, p__law_told, s__law_all_malformed, fr__law_all_malformed, p__law_all_malformed, s__law_great, fr__law_great, p__law_great, s__law_left, fr__law_left, p__law_left, s__law_turns, fr__law_turns, p__law_turns, s_law, fr_law, p_law]
    refine ⟨by omega, hn _ _ (.refl _ _) ⟨.val (.int (2 + i)), ?_⟩⟩
    rw [pl_more, show (2 + (i : Int)) = i + 2 by omega]
  · rintro env ⟨c, rfl⟩
    try simp only [st_for, st_nil, st_expr, st_asg, st_asgl, st_unp, st_par, st_app, st_seti, st_ret, st_retn, st_ife, st_brk, st_cnt, st_rmal, st_tr, wRet, e_var, e_int, e_bl, e_non, e_str, e_fnv, e_gint, e_bin, e_neg, e_not, e_cmp, e_chn, e_isn, e_ntn, e_and, e_or, e_ite, e_tup, e_lst, e_call, e_cio, e_clv, e_blt, e_isi, e_ix, e_slc, e_rev, e_lrng, e_lc, e_met, wA, wP, wAnd, wOr, wT, wTA, wTO, wI, wCs, wHnd, pk, at_, put, putAll, putCs, wTgt, rng_1, rng_2, cellOf, frE, frF, frB, isOwn, isOwnL, Op.rd, Cl.datum, List.getElem?_cons_zero, List.getElem?_cons_succ, List.getElem?_nil, Option.getD_some, Option.getD_none, List.set_cons_zero, List.set_cons_succ, ne_eq, reduceCtorEq, not_false_eq_true, not_true_eq_false, true_and, and_true, if_true, if_false, ite_true, ite_false, Bool.false_eq_true, Bool.true_eq_false, Bool.true_and, Bool.and_true, Bool.false_and, Bool.and_false, Bool.not_true, Bool.not_false, false_implies, true_implies, forall_const, implies_true, bin_add, bin_sub, bin_mul, bin_fdiv, bin_mod, bin_adds, bin_addt, bin_addl, bin_mull, bin_mult, cmp_lt, cmp_le, cmp_gt, cmp_ge, cmp_eqi, cmp_nei, cmp_eqb, cmp_eqs, tru_bl, tru_int, tru_non, tru_tup, tru_lst, tru_frz, ix_tup, len_tup, tpl_tup, lsl_tup, slc_tup, seq_tup, ix_lst, len_lst, tpl_lst, lsl_lst, slc_lst, seq_lst, ix_frz, len_frz, tpl_frz, lsl_frz, slc_frz, seq_frz, len_str, blt_abs, blt_int, blt_intb, blt_max, blt_min, blt_str, blt_all, blt_any, blt_sum, opt_0, opt_1, rng_1, rng_2, atI_0, atI_1, atI_2, atI_3, atI_4, ixN_20, ixN_21, ty_bl_int, ty_bl_bool, ty_bl_str, ty_bl_tuple, ty_bl_list, ht_bl, nn_bl, mu_bl, ty_int_int, ty_int_bool, ty_int_str, ty_int_tuple, ty_int_list, ht_int, nn_int, mu_int, ty_str_int, ty_str_bool, ty_str_str, ty_str_tuple, ty_str_list, ht_str, nn_str, mu_str, ty_tup_int, ty_tup_bool, ty_tup_str, ty_tup_tuple, ty_tup_list, ht_tup, nn_tup, mu_tup, ty_lst_int, ty_lst_bool, ty_lst_str, ty_lst_tuple, ty_lst_list, ht_lst, nn_lst, mu_lst, ty_frz_int, ty_frz_bool, ty_frz_str, ty_frz_tuple, ty_frz_list, ht_frz, nn_frz, mu_frz, ty_non_int, ty_non_bool, ty_non_str, ty_non_tuple, ty_non_list, ht_non, nn_non, mu_non, List.map_cons, List.map_nil, exists_eq_left', decide_eq_true_eq, exists_eq_left, List.length_cons, List.length_nil, Nat.reduceAdd, Int.reduceEq, Int.reduceLT, Int.reduceLE, Int.reduceNeg, decide_true, decide_false, Cl.own.injEq, List.mem_cons, List.not_mem_nil, or_false, forall_eq_or_imp, forall_eq, Option.some.injEq, s_is_integer, fr_is_integer, p_is_integer, s_is_count, fr_is_count, p_is_count, s_check_count, fr_check_count, p_check_count, s_left_over, fr_left_over, p_left_over, s_left_by_turns, fr_left_by_turns, p_left_by_turns, s__law_state, fr__law_state, p__law_state, s__law_take, fr__law_take, p__law_take, s__law_is_whole, fr__law_is_whole, p__law_is_whole, s__law_same_v, fr__law_same_v, p__law_same_v, s__law_same_0, fr__law_same_0, p__law_same_0, s__law_told, fr__law_told, p__law_told, s__law_all_malformed, fr__law_all_malformed, p__law_all_malformed, s__law_great, fr__law_great, p__law_great, s__law_left, fr__law_left, p__law_left, s__law_turns, fr__law_turns, p__law_turns, s_law, fr_law, p_law]
    have := hp n q rfl rfl n1 n2 q1 q2
    rw [show n.toNat - 1 = (n + 1 - 2).toNat by omega] at this
    exact this
theorem g__law_turns : Good tx.T tx.ek f__law_turns := by
  refine goodV rfl rfl (by decide) fun ds P Ex h => ?_
  obtain ⟨n, q, rfl, n1, n2, q1, q2, hp⟩ := h
  refine ⟨rfl, ?_⟩
  show wS _ b__law_turns [.val (.int n), .val (.int q), .emp, .emp] _
  unfold b__law_turns
  try simp only [st_for, st_nil, st_expr, st_asg, st_asgl, st_unp, st_par, st_app, st_seti, st_ret, st_retn, st_ife, st_brk, st_cnt, st_rmal, st_tr, wRet, e_var, e_int, e_bl, e_non, e_str, e_fnv, e_gint, e_bin, e_neg, e_not, e_cmp, e_chn, e_isn, e_ntn, e_and, e_or, e_ite, e_tup, e_lst, e_call, e_cio, e_clv, e_blt, e_isi, e_ix, e_slc, e_rev, e_lrng, e_lc, e_met, wA, wP, wAnd, wOr, wT, wTA, wTO, wI, wCs, wHnd, pk, at_, put, putAll, putCs, wTgt, rng_1, rng_2, cellOf, frE, frF, frB, isOwn, isOwnL, Op.rd, Cl.datum, List.getElem?_cons_zero, List.getElem?_cons_succ, List.getElem?_nil, Option.getD_some, Option.getD_none, List.set_cons_zero, List.set_cons_succ, ne_eq, reduceCtorEq, not_false_eq_true, not_true_eq_false, true_and, and_true, if_true, if_false, ite_true, ite_false, Bool.false_eq_true, Bool.true_eq_false, Bool.true_and, Bool.and_true, Bool.false_and, Bool.and_false, Bool.not_true, Bool.not_false, false_implies, true_implies, forall_const, implies_true, bin_add, bin_sub, bin_mul, bin_fdiv, bin_mod, bin_adds, bin_addt, bin_addl, bin_mull, bin_mult, cmp_lt, cmp_le, cmp_gt, cmp_ge, cmp_eqi, cmp_nei, cmp_eqb, cmp_eqs, tru_bl, tru_int, tru_non, tru_tup, tru_lst, tru_frz, ix_tup, len_tup, tpl_tup, lsl_tup, slc_tup, seq_tup, ix_lst, len_lst, tpl_lst, lsl_lst, slc_lst, seq_lst, ix_frz, len_frz, tpl_frz, lsl_frz, slc_frz, seq_frz, len_str, blt_abs, blt_int, blt_intb, blt_max, blt_min, blt_str, blt_all, blt_any, blt_sum, opt_0, opt_1, rng_1, rng_2, atI_0, atI_1, atI_2, atI_3, atI_4, ixN_20, ixN_21, ty_bl_int, ty_bl_bool, ty_bl_str, ty_bl_tuple, ty_bl_list, ht_bl, nn_bl, mu_bl, ty_int_int, ty_int_bool, ty_int_str, ty_int_tuple, ty_int_list, ht_int, nn_int, mu_int, ty_str_int, ty_str_bool, ty_str_str, ty_str_tuple, ty_str_list, ht_str, nn_str, mu_str, ty_tup_int, ty_tup_bool, ty_tup_str, ty_tup_tuple, ty_tup_list, ht_tup, nn_tup, mu_tup, ty_lst_int, ty_lst_bool, ty_lst_str, ty_lst_tuple, ty_lst_list, ht_lst, nn_lst, mu_lst, ty_frz_int, ty_frz_bool, ty_frz_str, ty_frz_tuple, ty_frz_list, ht_frz, nn_frz, mu_frz, ty_non_int, ty_non_bool, ty_non_str, ty_non_tuple, ty_non_list, ht_non, nn_non, mu_non, List.map_cons, List.map_nil, exists_eq_left', decide_eq_true_eq, exists_eq_left, List.length_cons, List.length_nil, Nat.reduceAdd, Int.reduceEq, Int.reduceLT, Int.reduceLE, Int.reduceNeg, decide_true, decide_false, Cl.own.injEq, List.mem_cons, List.not_mem_nil, or_false, forall_eq_or_imp, forall_eq, Option.some.injEq, s_is_integer, fr_is_integer, p_is_integer, s_is_count, fr_is_count, p_is_count, s_check_count, fr_check_count, p_check_count, s_left_over, fr_left_over, p_left_over, s_left_by_turns, fr_left_by_turns, p_left_by_turns, s__law_state, fr__law_state, p__law_state, s__law_take, fr__law_take, p__law_take, s__law_is_whole, fr__law_is_whole, p__law_is_whole, s__law_same_v, fr__law_same_v, p__law_same_v, s__law_same_0, fr__law_same_0, p__law_same_0, s__law_told, fr__law_told, p__law_told, s__law_all_malformed, fr__law_all_malformed, p__law_all_malformed, s__law_great, fr__law_great, p__law_great, s__law_left, fr__law_left, p__law_left, s__law_turns, fr__law_turns, p__law_turns, s_law, fr_law, p_law]
  refine ⟨⟨by omega, by omega⟩, ⟨by omega, by omega⟩, ?_⟩
  refine forR_rule (fun i env => ∃ c, env = [.val (.int n), .val (.int q), .val (.int (pl q i)), c]) ⟨.emp, rfl⟩ ?_ ?_
  · rintro i env nx hi ⟨c, rfl⟩ hn
    try simp only [st_for, st_nil, st_expr, st_asg, st_asgl, st_unp, st_par, st_app, st_seti, st_ret, st_retn, st_ife, st_brk, st_cnt, st_rmal, st_tr, wRet, e_var, e_int, e_bl, e_non, e_str, e_fnv, e_gint, e_bin, e_neg, e_not, e_cmp, e_chn, e_isn, e_ntn, e_and, e_or, e_ite, e_tup, e_lst, e_call, e_cio, e_clv, e_blt, e_isi, e_ix, e_slc, e_rev, e_lrng, e_lc, e_met, wA, wP, wAnd, wOr, wT, wTA, wTO, wI, wCs, wHnd, pk, at_, put, putAll, putCs, wTgt, rng_1, rng_2, cellOf, frE, frF, frB, isOwn, isOwnL, Op.rd, Cl.datum, List.getElem?_cons_zero, List.getElem?_cons_succ, List.getElem?_nil, Option.getD_some, Option.getD_none, List.set_cons_zero, List.set_cons_succ, ne_eq, reduceCtorEq, not_false_eq_true, not_true_eq_false, true_and, and_true, if_true, if_false, ite_true, ite_false, Bool.false_eq_true, Bool.true_eq_false, Bool.true_and, Bool.and_true, Bool.false_and, Bool.and_false, Bool.not_true, Bool.not_false, false_implies, true_implies, forall_const, implies_true, bin_add, bin_sub, bin_mul, bin_fdiv, bin_mod, bin_adds, bin_addt, bin_addl, bin_mull, bin_mult, cmp_lt, cmp_le, cmp_gt, cmp_ge, cmp_eqi, cmp_nei, cmp_eqb, cmp_eqs, tru_bl, tru_int, tru_non, tru_tup, tru_lst, tru_frz, ix_tup, len_tup, tpl_tup, lsl_tup, slc_tup, seq_tup, ix_lst, len_lst, tpl_lst, lsl_lst, slc_lst, seq_lst, ix_frz, len_frz, tpl_frz, lsl_frz, slc_frz, seq_frz, len_str, blt_abs, blt_int, blt_intb, blt_max, blt_min, blt_str, blt_all, blt_any, blt_sum, opt_0, opt_1, rng_1, rng_2, atI_0, atI_1, atI_2, atI_3, atI_4, ixN_20, ixN_21, ty_bl_int, ty_bl_bool, ty_bl_str, ty_bl_tuple, ty_bl_list, ht_bl, nn_bl, mu_bl, ty_int_int, ty_int_bool, ty_int_str, ty_int_tuple, ty_int_list, ht_int, nn_int, mu_int, ty_str_int, ty_str_bool, ty_str_str, ty_str_tuple, ty_str_list, ht_str, nn_str, mu_str, ty_tup_int, ty_tup_bool, ty_tup_str, ty_tup_tuple, ty_tup_list, ht_tup, nn_tup, mu_tup, ty_lst_int, ty_lst_bool, ty_lst_str, ty_lst_tuple, ty_lst_list, ht_lst, nn_lst, mu_lst, ty_frz_int, ty_frz_bool, ty_frz_str, ty_frz_tuple, ty_frz_list, ht_frz, nn_frz, mu_frz, ty_non_int, ty_non_bool, ty_non_str, ty_non_tuple, ty_non_list, ht_non, nn_non, mu_non, List.map_cons, List.map_nil, exists_eq_left', decide_eq_true_eq, exists_eq_left, List.length_cons, List.length_nil, Nat.reduceAdd, Int.reduceEq, Int.reduceLT, Int.reduceLE, Int.reduceNeg, decide_true, decide_false, Cl.own.injEq, List.mem_cons, List.not_mem_nil, or_false, forall_eq_or_imp, forall_eq, Option.some.injEq, s_is_integer, fr_is_integer, p_is_integer, s_is_count, fr_is_count, p_is_count, s_check_count, fr_check_count, p_check_count, s_left_over, fr_left_over, p_left_over, s_left_by_turns, fr_left_by_turns, p_left_by_turns, s__law_state, fr__law_state, p__law_state, s__law_take, fr__law_take, p__law_take, s__law_is_whole, fr__law_is_whole, p__law_is_whole, s__law_same_v, fr__law_same_v, p__law_same_v, s__law_same_0, fr__law_same_0, p__law_same_0, s__law_told, fr__law_told, p__law_told, s__law_all_malformed, fr__law_all_malformed, p__law_all_malformed, s__law_great, fr__law_great, p__law_great, s__law_left, fr__law_left, p__law_left, s__law_turns, fr__law_turns, p__law_turns, s_law, fr_law, p_law]
    refine ⟨by omega, hn _ _ (.refl _ _) ⟨.val (.int (2 + i)), ?_⟩⟩
    rw [pl_more, show (2 + (i : Int)) = i + 2 by omega]
  · rintro env ⟨c, rfl⟩
    try simp only [st_for, st_nil, st_expr, st_asg, st_asgl, st_unp, st_par, st_app, st_seti, st_ret, st_retn, st_ife, st_brk, st_cnt, st_rmal, st_tr, wRet, e_var, e_int, e_bl, e_non, e_str, e_fnv, e_gint, e_bin, e_neg, e_not, e_cmp, e_chn, e_isn, e_ntn, e_and, e_or, e_ite, e_tup, e_lst, e_call, e_cio, e_clv, e_blt, e_isi, e_ix, e_slc, e_rev, e_lrng, e_lc, e_met, wA, wP, wAnd, wOr, wT, wTA, wTO, wI, wCs, wHnd, pk, at_, put, putAll, putCs, wTgt, rng_1, rng_2, cellOf, frE, frF, frB, isOwn, isOwnL, Op.rd, Cl.datum, List.getElem?_cons_zero, List.getElem?_cons_succ, List.getElem?_nil, Option.getD_some, Option.getD_none, List.set_cons_zero, List.set_cons_succ, ne_eq, reduceCtorEq, not_false_eq_true, not_true_eq_false, true_and, and_true, if_true, if_false, ite_true, ite_false, Bool.false_eq_true, Bool.true_eq_false, Bool.true_and, Bool.and_true, Bool.false_and, Bool.and_false, Bool.not_true, Bool.not_false, false_implies, true_implies, forall_const, implies_true, bin_add, bin_sub, bin_mul, bin_fdiv, bin_mod, bin_adds, bin_addt, bin_addl, bin_mull, bin_mult, cmp_lt, cmp_le, cmp_gt, cmp_ge, cmp_eqi, cmp_nei, cmp_eqb, cmp_eqs, tru_bl, tru_int, tru_non, tru_tup, tru_lst, tru_frz, ix_tup, len_tup, tpl_tup, lsl_tup, slc_tup, seq_tup, ix_lst, len_lst, tpl_lst, lsl_lst, slc_lst, seq_lst, ix_frz, len_frz, tpl_frz, lsl_frz, slc_frz, seq_frz, len_str, blt_abs, blt_int, blt_intb, blt_max, blt_min, blt_str, blt_all, blt_any, blt_sum, opt_0, opt_1, rng_1, rng_2, atI_0, atI_1, atI_2, atI_3, atI_4, ixN_20, ixN_21, ty_bl_int, ty_bl_bool, ty_bl_str, ty_bl_tuple, ty_bl_list, ht_bl, nn_bl, mu_bl, ty_int_int, ty_int_bool, ty_int_str, ty_int_tuple, ty_int_list, ht_int, nn_int, mu_int, ty_str_int, ty_str_bool, ty_str_str, ty_str_tuple, ty_str_list, ht_str, nn_str, mu_str, ty_tup_int, ty_tup_bool, ty_tup_str, ty_tup_tuple, ty_tup_list, ht_tup, nn_tup, mu_tup, ty_lst_int, ty_lst_bool, ty_lst_str, ty_lst_tuple, ty_lst_list, ht_lst, nn_lst, mu_lst, ty_frz_int, ty_frz_bool, ty_frz_str, ty_frz_tuple, ty_frz_list, ht_frz, nn_frz, mu_frz, ty_non_int, ty_non_bool, ty_non_str, ty_non_tuple, ty_non_list, ht_non, nn_non, mu_non, List.map_cons, List.map_nil, exists_eq_left', decide_eq_true_eq, exists_eq_left, List.length_cons, List.length_nil, Nat.reduceAdd, Int.reduceEq, Int.reduceLT, Int.reduceLE, Int.reduceNeg, decide_true, decide_false, Cl.own.injEq, List.mem_cons, List.not_mem_nil, or_false, forall_eq_or_imp, forall_eq, Option.some.injEq, s_is_integer, fr_is_integer, p_is_integer, s_is_count, fr_is_count, p_is_count, s_check_count, fr_check_count, p_check_count, s_left_over, fr_left_over, p_left_over, s_left_by_turns, fr_left_by_turns, p_left_by_turns, s__law_state, fr__law_state, p__law_state, s__law_take, fr__law_take, p__law_take, s__law_is_whole, fr__law_is_whole, p__law_is_whole, s__law_same_v, fr__law_same_v, p__law_same_v, s__law_same_0, fr__law_same_0, p__law_same_0, s__law_told, fr__law_told, p__law_told, s__law_all_malformed, fr__law_all_malformed, p__law_all_malformed, s__law_great, fr__law_great, p__law_great, s__law_left, fr__law_left, p__law_left, s__law_turns, fr__law_turns, p__law_turns, s_law, fr_law, p_law]
    rw [show n.toNat - 1 = (n + 1 - 2).toNat by omega] at hp
    exact hp
theorem g__law_great : Good tx.T tx.ek f__law_great := by
  refine goodI rfl (by decide) fun ds P Ex h => ?_
  obtain ⟨a, b, rfl, hp⟩ := h
  refine ⟨_, _, rfl, rfl, ?_⟩
  show wS _ b__law_great [.own (.lst [.int a, .int b]), .emp, .emp] _
  unfold b__law_great
  try simp only [st_for, st_nil, st_expr, st_asg, st_asgl, st_unp, st_par, st_app, st_seti, st_ret, st_retn, st_ife, st_brk, st_cnt, st_rmal, st_tr, wRet, e_var, e_int, e_bl, e_non, e_str, e_fnv, e_gint, e_bin, e_neg, e_not, e_cmp, e_chn, e_isn, e_ntn, e_and, e_or, e_ite, e_tup, e_lst, e_call, e_cio, e_clv, e_blt, e_isi, e_ix, e_slc, e_rev, e_lrng, e_lc, e_met, wA, wP, wAnd, wOr, wT, wTA, wTO, wI, wCs, wHnd, pk, at_, put, putAll, putCs, wTgt, rng_1, rng_2, cellOf, frE, frF, frB, isOwn, isOwnL, Op.rd, Cl.datum, List.getElem?_cons_zero, List.getElem?_cons_succ, List.getElem?_nil, Option.getD_some, Option.getD_none, List.set_cons_zero, List.set_cons_succ, ne_eq, reduceCtorEq, not_false_eq_true, not_true_eq_false, true_and, and_true, if_true, if_false, ite_true, ite_false, Bool.false_eq_true, Bool.true_eq_false, Bool.true_and, Bool.and_true, Bool.false_and, Bool.and_false, Bool.not_true, Bool.not_false, false_implies, true_implies, forall_const, implies_true, bin_add, bin_sub, bin_mul, bin_fdiv, bin_mod, bin_adds, bin_addt, bin_addl, bin_mull, bin_mult, cmp_lt, cmp_le, cmp_gt, cmp_ge, cmp_eqi, cmp_nei, cmp_eqb, cmp_eqs, tru_bl, tru_int, tru_non, tru_tup, tru_lst, tru_frz, ix_tup, len_tup, tpl_tup, lsl_tup, slc_tup, seq_tup, ix_lst, len_lst, tpl_lst, lsl_lst, slc_lst, seq_lst, ix_frz, len_frz, tpl_frz, lsl_frz, slc_frz, seq_frz, len_str, blt_abs, blt_int, blt_intb, blt_max, blt_min, blt_str, blt_all, blt_any, blt_sum, opt_0, opt_1, rng_1, rng_2, atI_0, atI_1, atI_2, atI_3, atI_4, ixN_20, ixN_21, ty_bl_int, ty_bl_bool, ty_bl_str, ty_bl_tuple, ty_bl_list, ht_bl, nn_bl, mu_bl, ty_int_int, ty_int_bool, ty_int_str, ty_int_tuple, ty_int_list, ht_int, nn_int, mu_int, ty_str_int, ty_str_bool, ty_str_str, ty_str_tuple, ty_str_list, ht_str, nn_str, mu_str, ty_tup_int, ty_tup_bool, ty_tup_str, ty_tup_tuple, ty_tup_list, ht_tup, nn_tup, mu_tup, ty_lst_int, ty_lst_bool, ty_lst_str, ty_lst_tuple, ty_lst_list, ht_lst, nn_lst, mu_lst, ty_frz_int, ty_frz_bool, ty_frz_str, ty_frz_tuple, ty_frz_list, ht_frz, nn_frz, mu_frz, ty_non_int, ty_non_bool, ty_non_str, ty_non_tuple, ty_non_list, ht_non, nn_non, mu_non, List.map_cons, List.map_nil, exists_eq_left', decide_eq_true_eq, exists_eq_left, List.length_cons, List.length_nil, Nat.reduceAdd, Int.reduceEq, Int.reduceLT, Int.reduceLE, Int.reduceNeg, decide_true, decide_false, Cl.own.injEq, List.mem_cons, List.not_mem_nil, or_false, forall_eq_or_imp, forall_eq, Option.some.injEq, s_is_integer, fr_is_integer, p_is_integer, s_is_count, fr_is_count, p_is_count, s_check_count, fr_check_count, p_check_count, s_left_over, fr_left_over, p_left_over, s_left_by_turns, fr_left_by_turns, p_left_by_turns, s__law_state, fr__law_state, p__law_state, s__law_take, fr__law_take, p__law_take, s__law_is_whole, fr__law_is_whole, p__law_is_whole, s__law_same_v, fr__law_same_v, p__law_same_v, s__law_same_0, fr__law_same_0, p__law_same_0, s__law_told, fr__law_told, p__law_told, s__law_all_malformed, fr__law_all_malformed, p__law_all_malformed, s__law_great, fr__law_great, p__law_great, s__law_left, fr__law_left, p__law_left, s__law_turns, fr__law_turns, p__law_turns, s_law, fr_law, p_law]
  refine ⟨a, b, 5, rfl, by omega, by omega, fun k a1 b1 k1 k2 => ?_⟩
  try simp only [st_for, st_nil, st_expr, st_asg, st_asgl, st_unp, st_par, st_app, st_seti, st_ret, st_retn, st_ife, st_brk, st_cnt, st_rmal, st_tr, wRet, e_var, e_int, e_bl, e_non, e_str, e_fnv, e_gint, e_bin, e_neg, e_not, e_cmp, e_chn, e_isn, e_ntn, e_and, e_or, e_ite, e_tup, e_lst, e_call, e_cio, e_clv, e_blt, e_isi, e_ix, e_slc, e_rev, e_lrng, e_lc, e_met, wA, wP, wAnd, wOr, wT, wTA, wTO, wI, wCs, wHnd, pk, at_, put, putAll, putCs, wTgt, rng_1, rng_2, cellOf, frE, frF, frB, isOwn, isOwnL, Op.rd, Cl.datum, List.getElem?_cons_zero, List.getElem?_cons_succ, List.getElem?_nil, Option.getD_some, Option.getD_none, List.set_cons_zero, List.set_cons_succ, ne_eq, reduceCtorEq, not_false_eq_true, not_true_eq_false, true_and, and_true, if_true, if_false, ite_true, ite_false, Bool.false_eq_true, Bool.true_eq_false, Bool.true_and, Bool.and_true, Bool.false_and, Bool.and_false, Bool.not_true, Bool.not_false, false_implies, true_implies, forall_const, implies_true, bin_add, bin_sub, bin_mul, bin_fdiv, bin_mod, bin_adds, bin_addt, bin_addl, bin_mull, bin_mult, cmp_lt, cmp_le, cmp_gt, cmp_ge, cmp_eqi, cmp_nei, cmp_eqb, cmp_eqs, tru_bl, tru_int, tru_non, tru_tup, tru_lst, tru_frz, ix_tup, len_tup, tpl_tup, lsl_tup, slc_tup, seq_tup, ix_lst, len_lst, tpl_lst, lsl_lst, slc_lst, seq_lst, ix_frz, len_frz, tpl_frz, lsl_frz, slc_frz, seq_frz, len_str, blt_abs, blt_int, blt_intb, blt_max, blt_min, blt_str, blt_all, blt_any, blt_sum, opt_0, opt_1, rng_1, rng_2, atI_0, atI_1, atI_2, atI_3, atI_4, ixN_20, ixN_21, ty_bl_int, ty_bl_bool, ty_bl_str, ty_bl_tuple, ty_bl_list, ht_bl, nn_bl, mu_bl, ty_int_int, ty_int_bool, ty_int_str, ty_int_tuple, ty_int_list, ht_int, nn_int, mu_int, ty_str_int, ty_str_bool, ty_str_str, ty_str_tuple, ty_str_list, ht_str, nn_str, mu_str, ty_tup_int, ty_tup_bool, ty_tup_str, ty_tup_tuple, ty_tup_list, ht_tup, nn_tup, mu_tup, ty_lst_int, ty_lst_bool, ty_lst_str, ty_lst_tuple, ty_lst_list, ht_lst, nn_lst, mu_lst, ty_frz_int, ty_frz_bool, ty_frz_str, ty_frz_tuple, ty_frz_list, ht_frz, nn_frz, mu_frz, ty_non_int, ty_non_bool, ty_non_str, ty_non_tuple, ty_non_list, ht_non, nn_non, mu_non, List.map_cons, List.map_nil, exists_eq_left', decide_eq_true_eq, exists_eq_left, List.length_cons, List.length_nil, Nat.reduceAdd, Int.reduceEq, Int.reduceLT, Int.reduceLE, Int.reduceNeg, decide_true, decide_false, Cl.own.injEq, List.mem_cons, List.not_mem_nil, or_false, forall_eq_or_imp, forall_eq, Option.some.injEq, s_is_integer, fr_is_integer, p_is_integer, s_is_count, fr_is_count, p_is_count, s_check_count, fr_check_count, p_check_count, s_left_over, fr_left_over, p_left_over, s_left_by_turns, fr_left_by_turns, p_left_by_turns, s__law_state, fr__law_state, p__law_state, s__law_take, fr__law_take, p__law_take, s__law_is_whole, fr__law_is_whole, p__law_is_whole, s__law_same_v, fr__law_same_v, p__law_same_v, s__law_same_0, fr__law_same_0, p__law_same_0, s__law_told, fr__law_told, p__law_told, s__law_all_malformed, fr__law_all_malformed, p__law_all_malformed, s__law_great, fr__law_great, p__law_great, s__law_left, fr__law_left, p__law_left, s__law_turns, fr__law_turns, p__law_turns, s_law, fr_law, p_law]
  refine ⟨a1, b1, 60, rfl, by omega, by omega, fun n a2 b2 n1 n2 => ?_⟩
  try simp only [st_for, st_nil, st_expr, st_asg, st_asgl, st_unp, st_par, st_app, st_seti, st_ret, st_retn, st_ife, st_brk, st_cnt, st_rmal, st_tr, wRet, e_var, e_int, e_bl, e_non, e_str, e_fnv, e_gint, e_bin, e_neg, e_not, e_cmp, e_chn, e_isn, e_ntn, e_and, e_or, e_ite, e_tup, e_lst, e_call, e_cio, e_clv, e_blt, e_isi, e_ix, e_slc, e_rev, e_lrng, e_lc, e_met, wA, wP, wAnd, wOr, wT, wTA, wTO, wI, wCs, wHnd, pk, at_, put, putAll, putCs, wTgt, rng_1, rng_2, cellOf, frE, frF, frB, isOwn, isOwnL, Op.rd, Cl.datum, List.getElem?_cons_zero, List.getElem?_cons_succ, List.getElem?_nil, Option.getD_some, Option.getD_none, List.set_cons_zero, List.set_cons_succ, ne_eq, reduceCtorEq, not_false_eq_true, not_true_eq_false, true_and, and_true, if_true, if_false, ite_true, ite_false, Bool.false_eq_true, Bool.true_eq_false, Bool.true_and, Bool.and_true, Bool.false_and, Bool.and_false, Bool.not_true, Bool.not_false, false_implies, true_implies, forall_const, implies_true, bin_add, bin_sub, bin_mul, bin_fdiv, bin_mod, bin_adds, bin_addt, bin_addl, bin_mull, bin_mult, cmp_lt, cmp_le, cmp_gt, cmp_ge, cmp_eqi, cmp_nei, cmp_eqb, cmp_eqs, tru_bl, tru_int, tru_non, tru_tup, tru_lst, tru_frz, ix_tup, len_tup, tpl_tup, lsl_tup, slc_tup, seq_tup, ix_lst, len_lst, tpl_lst, lsl_lst, slc_lst, seq_lst, ix_frz, len_frz, tpl_frz, lsl_frz, slc_frz, seq_frz, len_str, blt_abs, blt_int, blt_intb, blt_max, blt_min, blt_str, blt_all, blt_any, blt_sum, opt_0, opt_1, rng_1, rng_2, atI_0, atI_1, atI_2, atI_3, atI_4, ixN_20, ixN_21, ty_bl_int, ty_bl_bool, ty_bl_str, ty_bl_tuple, ty_bl_list, ht_bl, nn_bl, mu_bl, ty_int_int, ty_int_bool, ty_int_str, ty_int_tuple, ty_int_list, ht_int, nn_int, mu_int, ty_str_int, ty_str_bool, ty_str_str, ty_str_tuple, ty_str_list, ht_str, nn_str, mu_str, ty_tup_int, ty_tup_bool, ty_tup_str, ty_tup_tuple, ty_tup_list, ht_tup, nn_tup, mu_tup, ty_lst_int, ty_lst_bool, ty_lst_str, ty_lst_tuple, ty_lst_list, ht_lst, nn_lst, mu_lst, ty_frz_int, ty_frz_bool, ty_frz_str, ty_frz_tuple, ty_frz_list, ht_frz, nn_frz, mu_frz, ty_non_int, ty_non_bool, ty_non_str, ty_non_tuple, ty_non_list, ht_non, nn_non, mu_non, List.map_cons, List.map_nil, exists_eq_left', decide_eq_true_eq, exists_eq_left, List.length_cons, List.length_nil, Nat.reduceAdd, Int.reduceEq, Int.reduceLT, Int.reduceLE, Int.reduceNeg, decide_true, decide_false, Cl.own.injEq, List.mem_cons, List.not_mem_nil, or_false, forall_eq_or_imp, forall_eq, Option.some.injEq, s_is_integer, fr_is_integer, p_is_integer, s_is_count, fr_is_count, p_is_count, s_check_count, fr_check_count, p_check_count, s_left_over, fr_left_over, p_left_over, s_left_by_turns, fr_left_by_turns, p_left_by_turns, s__law_state, fr__law_state, p__law_state, s__law_take, fr__law_take, p__law_take, s__law_is_whole, fr__law_is_whole, p__law_is_whole, s__law_same_v, fr__law_same_v, p__law_same_v, s__law_same_0, fr__law_same_0, p__law_same_0, s__law_told, fr__law_told, p__law_told, s__law_all_malformed, fr__law_all_malformed, p__law_all_malformed, s__law_great, fr__law_great, p__law_great, s__law_left, fr__law_left, p__law_left, s__law_turns, fr__law_turns, p__law_turns, s_law, fr_law, p_law]
  split
  · try simp only [st_for, st_nil, st_expr, st_asg, st_asgl, st_unp, st_par, st_app, st_seti, st_ret, st_retn, st_ife, st_brk, st_cnt, st_rmal, st_tr, wRet, e_var, e_int, e_bl, e_non, e_str, e_fnv, e_gint, e_bin, e_neg, e_not, e_cmp, e_chn, e_isn, e_ntn, e_and, e_or, e_ite, e_tup, e_lst, e_call, e_cio, e_clv, e_blt, e_isi, e_ix, e_slc, e_rev, e_lrng, e_lc, e_met, wA, wP, wAnd, wOr, wT, wTA, wTO, wI, wCs, wHnd, pk, at_, put, putAll, putCs, wTgt, rng_1, rng_2, cellOf, frE, frF, frB, isOwn, isOwnL, Op.rd, Cl.datum, List.getElem?_cons_zero, List.getElem?_cons_succ, List.getElem?_nil, Option.getD_some, Option.getD_none, List.set_cons_zero, List.set_cons_succ, ne_eq, reduceCtorEq, not_false_eq_true, not_true_eq_false, true_and, and_true, if_true, if_false, ite_true, ite_false, Bool.false_eq_true, Bool.true_eq_false, Bool.true_and, Bool.and_true, Bool.false_and, Bool.and_false, Bool.not_true, Bool.not_false, false_implies, true_implies, forall_const, implies_true, bin_add, bin_sub, bin_mul, bin_fdiv, bin_mod, bin_adds, bin_addt, bin_addl, bin_mull, bin_mult, cmp_lt, cmp_le, cmp_gt, cmp_ge, cmp_eqi, cmp_nei, cmp_eqb, cmp_eqs, tru_bl, tru_int, tru_non, tru_tup, tru_lst, tru_frz, ix_tup, len_tup, tpl_tup, lsl_tup, slc_tup, seq_tup, ix_lst, len_lst, tpl_lst, lsl_lst, slc_lst, seq_lst, ix_frz, len_frz, tpl_frz, lsl_frz, slc_frz, seq_frz, len_str, blt_abs, blt_int, blt_intb, blt_max, blt_min, blt_str, blt_all, blt_any, blt_sum, opt_0, opt_1, rng_1, rng_2, atI_0, atI_1, atI_2, atI_3, atI_4, ixN_20, ixN_21, ty_bl_int, ty_bl_bool, ty_bl_str, ty_bl_tuple, ty_bl_list, ht_bl, nn_bl, mu_bl, ty_int_int, ty_int_bool, ty_int_str, ty_int_tuple, ty_int_list, ht_int, nn_int, mu_int, ty_str_int, ty_str_bool, ty_str_str, ty_str_tuple, ty_str_list, ht_str, nn_str, mu_str, ty_tup_int, ty_tup_bool, ty_tup_str, ty_tup_tuple, ty_tup_list, ht_tup, nn_tup, mu_tup, ty_lst_int, ty_lst_bool, ty_lst_str, ty_lst_tuple, ty_lst_list, ht_lst, nn_lst, mu_lst, ty_frz_int, ty_frz_bool, ty_frz_str, ty_frz_tuple, ty_frz_list, ht_frz, nn_frz, mu_frz, ty_non_int, ty_non_bool, ty_non_str, ty_non_tuple, ty_non_list, ht_non, nn_non, mu_non, List.map_cons, List.map_nil, exists_eq_left', decide_eq_true_eq, exists_eq_left, List.length_cons, List.length_nil, Nat.reduceAdd, Int.reduceEq, Int.reduceLT, Int.reduceLE, Int.reduceNeg, decide_true, decide_false, Cl.own.injEq, List.mem_cons, List.not_mem_nil, or_false, forall_eq_or_imp, forall_eq, Option.some.injEq, s_is_integer, fr_is_integer, p_is_integer, s_is_count, fr_is_count, p_is_count, s_check_count, fr_check_count, p_check_count, s_left_over, fr_left_over, p_left_over, s_left_by_turns, fr_left_by_turns, p_left_by_turns, s__law_state, fr__law_state, p__law_state, s__law_take, fr__law_take, p__law_take, s__law_is_whole, fr__law_is_whole, p__law_is_whole, s__law_same_v, fr__law_same_v, p__law_same_v, s__law_same_0, fr__law_same_0, p__law_same_0, s__law_told, fr__law_told, p__law_told, s__law_all_malformed, fr__law_all_malformed, p__law_all_malformed, s__law_great, fr__law_great, p__law_great, s__law_left, fr__law_left, p__law_left, s__law_turns, fr__law_turns, p__law_turns, s_law, fr_law, p_law]
    refine ⟨mulR (by omega) (by omega), a2, b2, 1000, rfl, by omega, by omega, fun x a3 b3 x1 x2 => ?_⟩
    try simp only [st_for, st_nil, st_expr, st_asg, st_asgl, st_unp, st_par, st_app, st_seti, st_ret, st_retn, st_ife, st_brk, st_cnt, st_rmal, st_tr, wRet, e_var, e_int, e_bl, e_non, e_str, e_fnv, e_gint, e_bin, e_neg, e_not, e_cmp, e_chn, e_isn, e_ntn, e_and, e_or, e_ite, e_tup, e_lst, e_call, e_cio, e_clv, e_blt, e_isi, e_ix, e_slc, e_rev, e_lrng, e_lc, e_met, wA, wP, wAnd, wOr, wT, wTA, wTO, wI, wCs, wHnd, pk, at_, put, putAll, putCs, wTgt, rng_1, rng_2, cellOf, frE, frF, frB, isOwn, isOwnL, Op.rd, Cl.datum, List.getElem?_cons_zero, List.getElem?_cons_succ, List.getElem?_nil, Option.getD_some, Option.getD_none, List.set_cons_zero, List.set_cons_succ, ne_eq, reduceCtorEq, not_false_eq_true, not_true_eq_false, true_and, and_true, if_true, if_false, ite_true, ite_false, Bool.false_eq_true, Bool.true_eq_false, Bool.true_and, Bool.and_true, Bool.false_and, Bool.and_false, Bool.not_true, Bool.not_false, false_implies, true_implies, forall_const, implies_true, bin_add, bin_sub, bin_mul, bin_fdiv, bin_mod, bin_adds, bin_addt, bin_addl, bin_mull, bin_mult, cmp_lt, cmp_le, cmp_gt, cmp_ge, cmp_eqi, cmp_nei, cmp_eqb, cmp_eqs, tru_bl, tru_int, tru_non, tru_tup, tru_lst, tru_frz, ix_tup, len_tup, tpl_tup, lsl_tup, slc_tup, seq_tup, ix_lst, len_lst, tpl_lst, lsl_lst, slc_lst, seq_lst, ix_frz, len_frz, tpl_frz, lsl_frz, slc_frz, seq_frz, len_str, blt_abs, blt_int, blt_intb, blt_max, blt_min, blt_str, blt_all, blt_any, blt_sum, opt_0, opt_1, rng_1, rng_2, atI_0, atI_1, atI_2, atI_3, atI_4, ixN_20, ixN_21, ty_bl_int, ty_bl_bool, ty_bl_str, ty_bl_tuple, ty_bl_list, ht_bl, nn_bl, mu_bl, ty_int_int, ty_int_bool, ty_int_str, ty_int_tuple, ty_int_list, ht_int, nn_int, mu_int, ty_str_int, ty_str_bool, ty_str_str, ty_str_tuple, ty_str_list, ht_str, nn_str, mu_str, ty_tup_int, ty_tup_bool, ty_tup_str, ty_tup_tuple, ty_tup_list, ht_tup, nn_tup, mu_tup, ty_lst_int, ty_lst_bool, ty_lst_str, ty_lst_tuple, ty_lst_list, ht_lst, nn_lst, mu_lst, ty_frz_int, ty_frz_bool, ty_frz_str, ty_frz_tuple, ty_frz_list, ht_frz, nn_frz, mu_frz, ty_non_int, ty_non_bool, ty_non_str, ty_non_tuple, ty_non_list, ht_non, nn_non, mu_non, List.map_cons, List.map_nil, exists_eq_left', decide_eq_true_eq, exists_eq_left, List.length_cons, List.length_nil, Nat.reduceAdd, Int.reduceEq, Int.reduceLT, Int.reduceLE, Int.reduceNeg, decide_true, decide_false, Cl.own.injEq, List.mem_cons, List.not_mem_nil, or_false, forall_eq_or_imp, forall_eq, Option.some.injEq, s_is_integer, fr_is_integer, p_is_integer, s_is_count, fr_is_count, p_is_count, s_check_count, fr_check_count, p_check_count, s_left_over, fr_left_over, p_left_over, s_left_by_turns, fr_left_by_turns, p_left_by_turns, s__law_state, fr__law_state, p__law_state, s__law_take, fr__law_take, p__law_take, s__law_is_whole, fr__law_is_whole, p__law_is_whole, s__law_same_v, fr__law_same_v, p__law_same_v, s__law_same_0, fr__law_same_0, p__law_same_0, s__law_told, fr__law_told, p__law_told, s__law_all_malformed, fr__law_all_malformed, p__law_all_malformed, s__law_great, fr__law_great, p__law_great, s__law_left, fr__law_left, p__law_left, s__law_turns, fr__law_turns, p__law_turns, s_law, fr_law, p_law]
    split
    · try simp only [st_for, st_nil, st_expr, st_asg, st_asgl, st_unp, st_par, st_app, st_seti, st_ret, st_retn, st_ife, st_brk, st_cnt, st_rmal, st_tr, wRet, e_var, e_int, e_bl, e_non, e_str, e_fnv, e_gint, e_bin, e_neg, e_not, e_cmp, e_chn, e_isn, e_ntn, e_and, e_or, e_ite, e_tup, e_lst, e_call, e_cio, e_clv, e_blt, e_isi, e_ix, e_slc, e_rev, e_lrng, e_lc, e_met, wA, wP, wAnd, wOr, wT, wTA, wTO, wI, wCs, wHnd, pk, at_, put, putAll, putCs, wTgt, rng_1, rng_2, cellOf, frE, frF, frB, isOwn, isOwnL, Op.rd, Cl.datum, List.getElem?_cons_zero, List.getElem?_cons_succ, List.getElem?_nil, Option.getD_some, Option.getD_none, List.set_cons_zero, List.set_cons_succ, ne_eq, reduceCtorEq, not_false_eq_true, not_true_eq_false, true_and, and_true, if_true, if_false, ite_true, ite_false, Bool.false_eq_true, Bool.true_eq_false, Bool.true_and, Bool.and_true, Bool.false_and, Bool.and_false, Bool.not_true, Bool.not_false, false_implies, true_implies, forall_const, implies_true, bin_add, bin_sub, bin_mul, bin_fdiv, bin_mod, bin_adds, bin_addt, bin_addl, bin_mull, bin_mult, cmp_lt, cmp_le, cmp_gt, cmp_ge, cmp_eqi, cmp_nei, cmp_eqb, cmp_eqs, tru_bl, tru_int, tru_non, tru_tup, tru_lst, tru_frz, ix_tup, len_tup, tpl_tup, lsl_tup, slc_tup, seq_tup, ix_lst, len_lst, tpl_lst, lsl_lst, slc_lst, seq_lst, ix_frz, len_frz, tpl_frz, lsl_frz, slc_frz, seq_frz, len_str, blt_abs, blt_int, blt_intb, blt_max, blt_min, blt_str, blt_all, blt_any, blt_sum, opt_0, opt_1, rng_1, rng_2, atI_0, atI_1, atI_2, atI_3, atI_4, ixN_20, ixN_21, ty_bl_int, ty_bl_bool, ty_bl_str, ty_bl_tuple, ty_bl_list, ht_bl, nn_bl, mu_bl, ty_int_int, ty_int_bool, ty_int_str, ty_int_tuple, ty_int_list, ht_int, nn_int, mu_int, ty_str_int, ty_str_bool, ty_str_str, ty_str_tuple, ty_str_list, ht_str, nn_str, mu_str, ty_tup_int, ty_tup_bool, ty_tup_str, ty_tup_tuple, ty_tup_list, ht_tup, nn_tup, mu_tup, ty_lst_int, ty_lst_bool, ty_lst_str, ty_lst_tuple, ty_lst_list, ht_lst, nn_lst, mu_lst, ty_frz_int, ty_frz_bool, ty_frz_str, ty_frz_tuple, ty_frz_list, ht_frz, nn_frz, mu_frz, ty_non_int, ty_non_bool, ty_non_str, ty_non_tuple, ty_non_list, ht_non, nn_non, mu_non, List.map_cons, List.map_nil, exists_eq_left', decide_eq_true_eq, exists_eq_left, List.length_cons, List.length_nil, Nat.reduceAdd, Int.reduceEq, Int.reduceLT, Int.reduceLE, Int.reduceNeg, decide_true, decide_false, Cl.own.injEq, List.mem_cons, List.not_mem_nil, or_false, forall_eq_or_imp, forall_eq, Option.some.injEq, s_is_integer, fr_is_integer, p_is_integer, s_is_count, fr_is_count, p_is_count, s_check_count, fr_check_count, p_check_count, s_left_over, fr_left_over, p_left_over, s_left_by_turns, fr_left_by_turns, p_left_by_turns, s__law_state, fr__law_state, p__law_state, s__law_take, fr__law_take, p__law_take, s__law_is_whole, fr__law_is_whole, p__law_is_whole, s__law_same_v, fr__law_same_v, p__law_same_v, s__law_same_0, fr__law_same_0, p__law_same_0, s__law_told, fr__law_told, p__law_told, s__law_all_malformed, fr__law_all_malformed, p__law_all_malformed, s__law_great, fr__law_great, p__law_great, s__law_left, fr__law_left, p__law_left, s__law_turns, fr__law_turns, p__law_turns, s_law, fr_law, p_law]
      refine ⟨mulL (by omega) (by omega), a3, b3, 1000003, rfl, by omega, by omega, fun y a4 b4 y1 y2 => ?_⟩
      try simp only [st_for, st_nil, st_expr, st_asg, st_asgl, st_unp, st_par, st_app, st_seti, st_ret, st_retn, st_ife, st_brk, st_cnt, st_rmal, st_tr, wRet, e_var, e_int, e_bl, e_non, e_str, e_fnv, e_gint, e_bin, e_neg, e_not, e_cmp, e_chn, e_isn, e_ntn, e_and, e_or, e_ite, e_tup, e_lst, e_call, e_cio, e_clv, e_blt, e_isi, e_ix, e_slc, e_rev, e_lrng, e_lc, e_met, wA, wP, wAnd, wOr, wT, wTA, wTO, wI, wCs, wHnd, pk, at_, put, putAll, putCs, wTgt, rng_1, rng_2, cellOf, frE, frF, frB, isOwn, isOwnL, Op.rd, Cl.datum, List.getElem?_cons_zero, List.getElem?_cons_succ, List.getElem?_nil, Option.getD_some, Option.getD_none, List.set_cons_zero, List.set_cons_succ, ne_eq, reduceCtorEq, not_false_eq_true, not_true_eq_false, true_and, and_true, if_true, if_false, ite_true, ite_false, Bool.false_eq_true, Bool.true_eq_false, Bool.true_and, Bool.and_true, Bool.false_and, Bool.and_false, Bool.not_true, Bool.not_false, false_implies, true_implies, forall_const, implies_true, bin_add, bin_sub, bin_mul, bin_fdiv, bin_mod, bin_adds, bin_addt, bin_addl, bin_mull, bin_mult, cmp_lt, cmp_le, cmp_gt, cmp_ge, cmp_eqi, cmp_nei, cmp_eqb, cmp_eqs, tru_bl, tru_int, tru_non, tru_tup, tru_lst, tru_frz, ix_tup, len_tup, tpl_tup, lsl_tup, slc_tup, seq_tup, ix_lst, len_lst, tpl_lst, lsl_lst, slc_lst, seq_lst, ix_frz, len_frz, tpl_frz, lsl_frz, slc_frz, seq_frz, len_str, blt_abs, blt_int, blt_intb, blt_max, blt_min, blt_str, blt_all, blt_any, blt_sum, opt_0, opt_1, rng_1, rng_2, atI_0, atI_1, atI_2, atI_3, atI_4, ixN_20, ixN_21, ty_bl_int, ty_bl_bool, ty_bl_str, ty_bl_tuple, ty_bl_list, ht_bl, nn_bl, mu_bl, ty_int_int, ty_int_bool, ty_int_str, ty_int_tuple, ty_int_list, ht_int, nn_int, mu_int, ty_str_int, ty_str_bool, ty_str_str, ty_str_tuple, ty_str_list, ht_str, nn_str, mu_str, ty_tup_int, ty_tup_bool, ty_tup_str, ty_tup_tuple, ty_tup_list, ht_tup, nn_tup, mu_tup, ty_lst_int, ty_lst_bool, ty_lst_str, ty_lst_tuple, ty_lst_list, ht_lst, nn_lst, mu_lst, ty_frz_int, ty_frz_bool, ty_frz_str, ty_frz_tuple, ty_frz_list, ht_frz, nn_frz, mu_frz, ty_non_int, ty_non_bool, ty_non_str, ty_non_tuple, ty_non_list, ht_non, nn_non, mu_non, List.map_cons, List.map_nil, exists_eq_left', decide_eq_true_eq, exists_eq_left, List.length_cons, List.length_nil, Nat.reduceAdd, Int.reduceEq, Int.reduceLT, Int.reduceLE, Int.reduceNeg, decide_true, decide_false, Cl.own.injEq, List.mem_cons, List.not_mem_nil, or_false, forall_eq_or_imp, forall_eq, Option.some.injEq, s_is_integer, fr_is_integer, p_is_integer, s_is_count, fr_is_count, p_is_count, s_check_count, fr_check_count, p_check_count, s_left_over, fr_left_over, p_left_over, s_left_by_turns, fr_left_by_turns, p_left_by_turns, s__law_state, fr__law_state, p__law_state, s__law_take, fr__law_take, p__law_take, s__law_is_whole, fr__law_is_whole, p__law_is_whole, s__law_same_v, fr__law_same_v, p__law_same_v, s__law_same_0, fr__law_same_0, p__law_same_0, s__law_told, fr__law_told, p__law_told, s__law_all_malformed, fr__law_all_malformed, p__law_all_malformed, s__law_great, fr__law_great, p__law_great, s__law_left, fr__law_left, p__law_left, s__law_turns, fr__law_turns, p__law_turns, s_law, fr_law, p_law]
      exact ⟨mulR (by omega) (by omega), hp _ _ _ (by omega) (by omega)⟩
    · exact hp _ _ _ (by omega) (by omega)
  · try simp only [st_for, st_nil, st_expr, st_asg, st_asgl, st_unp, st_par, st_app, st_seti, st_ret, st_retn, st_ife, st_brk, st_cnt, st_rmal, st_tr, wRet, e_var, e_int, e_bl, e_non, e_str, e_fnv, e_gint, e_bin, e_neg, e_not, e_cmp, e_chn, e_isn, e_ntn, e_and, e_or, e_ite, e_tup, e_lst, e_call, e_cio, e_clv, e_blt, e_isi, e_ix, e_slc, e_rev, e_lrng, e_lc, e_met, wA, wP, wAnd, wOr, wT, wTA, wTO, wI, wCs, wHnd, pk, at_, put, putAll, putCs, wTgt, rng_1, rng_2, cellOf, frE, frF, frB, isOwn, isOwnL, Op.rd, Cl.datum, List.getElem?_cons_zero, List.getElem?_cons_succ, List.getElem?_nil, Option.getD_some, Option.getD_none, List.set_cons_zero, List.set_cons_succ, ne_eq, reduceCtorEq, not_false_eq_true, not_true_eq_false, true_and, and_true, if_true, if_false, ite_true, ite_false, Bool.false_eq_true, Bool.true_eq_false, Bool.true_and, Bool.and_true, Bool.false_and, Bool.and_false, Bool.not_true, Bool.not_false, false_implies, true_implies, forall_const, implies_true, bin_add, bin_sub, bin_mul, bin_fdiv, bin_mod, bin_adds, bin_addt, bin_addl, bin_mull, bin_mult, cmp_lt, cmp_le, cmp_gt, cmp_ge, cmp_eqi, cmp_nei, cmp_eqb, cmp_eqs, tru_bl, tru_int, tru_non, tru_tup, tru_lst, tru_frz, ix_tup, len_tup, tpl_tup, lsl_tup, slc_tup, seq_tup, ix_lst, len_lst, tpl_lst, lsl_lst, slc_lst, seq_lst, ix_frz, len_frz, tpl_frz, lsl_frz, slc_frz, seq_frz, len_str, blt_abs, blt_int, blt_intb, blt_max, blt_min, blt_str, blt_all, blt_any, blt_sum, opt_0, opt_1, rng_1, rng_2, atI_0, atI_1, atI_2, atI_3, atI_4, ixN_20, ixN_21, ty_bl_int, ty_bl_bool, ty_bl_str, ty_bl_tuple, ty_bl_list, ht_bl, nn_bl, mu_bl, ty_int_int, ty_int_bool, ty_int_str, ty_int_tuple, ty_int_list, ht_int, nn_int, mu_int, ty_str_int, ty_str_bool, ty_str_str, ty_str_tuple, ty_str_list, ht_str, nn_str, mu_str, ty_tup_int, ty_tup_bool, ty_tup_str, ty_tup_tuple, ty_tup_list, ht_tup, nn_tup, mu_tup, ty_lst_int, ty_lst_bool, ty_lst_str, ty_lst_tuple, ty_lst_list, ht_lst, nn_lst, mu_lst, ty_frz_int, ty_frz_bool, ty_frz_str, ty_frz_tuple, ty_frz_list, ht_frz, nn_frz, mu_frz, ty_non_int, ty_non_bool, ty_non_str, ty_non_tuple, ty_non_list, ht_non, nn_non, mu_non, List.map_cons, List.map_nil, exists_eq_left', decide_eq_true_eq, exists_eq_left, List.length_cons, List.length_nil, Nat.reduceAdd, Int.reduceEq, Int.reduceLT, Int.reduceLE, Int.reduceNeg, decide_true, decide_false, Cl.own.injEq, List.mem_cons, List.not_mem_nil, or_false, forall_eq_or_imp, forall_eq, Option.some.injEq, s_is_integer, fr_is_integer, p_is_integer, s_is_count, fr_is_count, p_is_count, s_check_count, fr_check_count, p_check_count, s_left_over, fr_left_over, p_left_over, s_left_by_turns, fr_left_by_turns, p_left_by_turns, s__law_state, fr__law_state, p__law_state, s__law_take, fr__law_take, p__law_take, s__law_is_whole, fr__law_is_whole, p__law_is_whole, s__law_same_v, fr__law_same_v, p__law_same_v, s__law_same_0, fr__law_same_0, p__law_same_0, s__law_told, fr__law_told, p__law_told, s__law_all_malformed, fr__law_all_malformed, p__law_all_malformed, s__law_great, fr__law_great, p__law_great, s__law_left, fr__law_left, p__law_left, s__law_turns, fr__law_turns, p__law_turns, s_law, fr_law, p_law]
    split
    · try simp only [st_for, st_nil, st_expr, st_asg, st_asgl, st_unp, st_par, st_app, st_seti, st_ret, st_retn, st_ife, st_brk, st_cnt, st_rmal, st_tr, wRet, e_var, e_int, e_bl, e_non, e_str, e_fnv, e_gint, e_bin, e_neg, e_not, e_cmp, e_chn, e_isn, e_ntn, e_and, e_or, e_ite, e_tup, e_lst, e_call, e_cio, e_clv, e_blt, e_isi, e_ix, e_slc, e_rev, e_lrng, e_lc, e_met, wA, wP, wAnd, wOr, wT, wTA, wTO, wI, wCs, wHnd, pk, at_, put, putAll, putCs, wTgt, rng_1, rng_2, cellOf, frE, frF, frB, isOwn, isOwnL, Op.rd, Cl.datum, List.getElem?_cons_zero, List.getElem?_cons_succ, List.getElem?_nil, Option.getD_some, Option.getD_none, List.set_cons_zero, List.set_cons_succ, ne_eq, reduceCtorEq, not_false_eq_true, not_true_eq_false, true_and, and_true, if_true, if_false, ite_true, ite_false, Bool.false_eq_true, Bool.true_eq_false, Bool.true_and, Bool.and_true, Bool.false_and, Bool.and_false, Bool.not_true, Bool.not_false, false_implies, true_implies, forall_const, implies_true, bin_add, bin_sub, bin_mul, bin_fdiv, bin_mod, bin_adds, bin_addt, bin_addl, bin_mull, bin_mult, cmp_lt, cmp_le, cmp_gt, cmp_ge, cmp_eqi, cmp_nei, cmp_eqb, cmp_eqs, tru_bl, tru_int, tru_non, tru_tup, tru_lst, tru_frz, ix_tup, len_tup, tpl_tup, lsl_tup, slc_tup, seq_tup, ix_lst, len_lst, tpl_lst, lsl_lst, slc_lst, seq_lst, ix_frz, len_frz, tpl_frz, lsl_frz, slc_frz, seq_frz, len_str, blt_abs, blt_int, blt_intb, blt_max, blt_min, blt_str, blt_all, blt_any, blt_sum, opt_0, opt_1, rng_1, rng_2, atI_0, atI_1, atI_2, atI_3, atI_4, ixN_20, ixN_21, ty_bl_int, ty_bl_bool, ty_bl_str, ty_bl_tuple, ty_bl_list, ht_bl, nn_bl, mu_bl, ty_int_int, ty_int_bool, ty_int_str, ty_int_tuple, ty_int_list, ht_int, nn_int, mu_int, ty_str_int, ty_str_bool, ty_str_str, ty_str_tuple, ty_str_list, ht_str, nn_str, mu_str, ty_tup_int, ty_tup_bool, ty_tup_str, ty_tup_tuple, ty_tup_list, ht_tup, nn_tup, mu_tup, ty_lst_int, ty_lst_bool, ty_lst_str, ty_lst_tuple, ty_lst_list, ht_lst, nn_lst, mu_lst, ty_frz_int, ty_frz_bool, ty_frz_str, ty_frz_tuple, ty_frz_list, ht_frz, nn_frz, mu_frz, ty_non_int, ty_non_bool, ty_non_str, ty_non_tuple, ty_non_list, ht_non, nn_non, mu_non, List.map_cons, List.map_nil, exists_eq_left', decide_eq_true_eq, exists_eq_left, List.length_cons, List.length_nil, Nat.reduceAdd, Int.reduceEq, Int.reduceLT, Int.reduceLE, Int.reduceNeg, decide_true, decide_false, Cl.own.injEq, List.mem_cons, List.not_mem_nil, or_false, forall_eq_or_imp, forall_eq, Option.some.injEq, s_is_integer, fr_is_integer, p_is_integer, s_is_count, fr_is_count, p_is_count, s_check_count, fr_check_count, p_check_count, s_left_over, fr_left_over, p_left_over, s_left_by_turns, fr_left_by_turns, p_left_by_turns, s__law_state, fr__law_state, p__law_state, s__law_take, fr__law_take, p__law_take, s__law_is_whole, fr__law_is_whole, p__law_is_whole, s__law_same_v, fr__law_same_v, p__law_same_v, s__law_same_0, fr__law_same_0, p__law_same_0, s__law_told, fr__law_told, p__law_told, s__law_all_malformed, fr__law_all_malformed, p__law_all_malformed, s__law_great, fr__law_great, p__law_great, s__law_left, fr__law_left, p__law_left, s__law_turns, fr__law_turns, p__law_turns, s_law, fr_law, p_law]
      refine ⟨mulL (by omega) (by omega), a2, b2, 1000003, rfl, by omega, by omega, fun y a4 b4 y1 y2 => ?_⟩
      try simp only [st_for, st_nil, st_expr, st_asg, st_asgl, st_unp, st_par, st_app, st_seti, st_ret, st_retn, st_ife, st_brk, st_cnt, st_rmal, st_tr, wRet, e_var, e_int, e_bl, e_non, e_str, e_fnv, e_gint, e_bin, e_neg, e_not, e_cmp, e_chn, e_isn, e_ntn, e_and, e_or, e_ite, e_tup, e_lst, e_call, e_cio, e_clv, e_blt, e_isi, e_ix, e_slc, e_rev, e_lrng, e_lc, e_met, wA, wP, wAnd, wOr, wT, wTA, wTO, wI, wCs, wHnd, pk, at_, put, putAll, putCs, wTgt, rng_1, rng_2, cellOf, frE, frF, frB, isOwn, isOwnL, Op.rd, Cl.datum, List.getElem?_cons_zero, List.getElem?_cons_succ, List.getElem?_nil, Option.getD_some, Option.getD_none, List.set_cons_zero, List.set_cons_succ, ne_eq, reduceCtorEq, not_false_eq_true, not_true_eq_false, true_and, and_true, if_true, if_false, ite_true, ite_false, Bool.false_eq_true, Bool.true_eq_false, Bool.true_and, Bool.and_true, Bool.false_and, Bool.and_false, Bool.not_true, Bool.not_false, false_implies, true_implies, forall_const, implies_true, bin_add, bin_sub, bin_mul, bin_fdiv, bin_mod, bin_adds, bin_addt, bin_addl, bin_mull, bin_mult, cmp_lt, cmp_le, cmp_gt, cmp_ge, cmp_eqi, cmp_nei, cmp_eqb, cmp_eqs, tru_bl, tru_int, tru_non, tru_tup, tru_lst, tru_frz, ix_tup, len_tup, tpl_tup, lsl_tup, slc_tup, seq_tup, ix_lst, len_lst, tpl_lst, lsl_lst, slc_lst, seq_lst, ix_frz, len_frz, tpl_frz, lsl_frz, slc_frz, seq_frz, len_str, blt_abs, blt_int, blt_intb, blt_max, blt_min, blt_str, blt_all, blt_any, blt_sum, opt_0, opt_1, rng_1, rng_2, atI_0, atI_1, atI_2, atI_3, atI_4, ixN_20, ixN_21, ty_bl_int, ty_bl_bool, ty_bl_str, ty_bl_tuple, ty_bl_list, ht_bl, nn_bl, mu_bl, ty_int_int, ty_int_bool, ty_int_str, ty_int_tuple, ty_int_list, ht_int, nn_int, mu_int, ty_str_int, ty_str_bool, ty_str_str, ty_str_tuple, ty_str_list, ht_str, nn_str, mu_str, ty_tup_int, ty_tup_bool, ty_tup_str, ty_tup_tuple, ty_tup_list, ht_tup, nn_tup, mu_tup, ty_lst_int, ty_lst_bool, ty_lst_str, ty_lst_tuple, ty_lst_list, ht_lst, nn_lst, mu_lst, ty_frz_int, ty_frz_bool, ty_frz_str, ty_frz_tuple, ty_frz_list, ht_frz, nn_frz, mu_frz, ty_non_int, ty_non_bool, ty_non_str, ty_non_tuple, ty_non_list, ht_non, nn_non, mu_non, List.map_cons, List.map_nil, exists_eq_left', decide_eq_true_eq, exists_eq_left, List.length_cons, List.length_nil, Nat.reduceAdd, Int.reduceEq, Int.reduceLT, Int.reduceLE, Int.reduceNeg, decide_true, decide_false, Cl.own.injEq, List.mem_cons, List.not_mem_nil, or_false, forall_eq_or_imp, forall_eq, Option.some.injEq, s_is_integer, fr_is_integer, p_is_integer, s_is_count, fr_is_count, p_is_count, s_check_count, fr_check_count, p_check_count, s_left_over, fr_left_over, p_left_over, s_left_by_turns, fr_left_by_turns, p_left_by_turns, s__law_state, fr__law_state, p__law_state, s__law_take, fr__law_take, p__law_take, s__law_is_whole, fr__law_is_whole, p__law_is_whole, s__law_same_v, fr__law_same_v, p__law_same_v, s__law_same_0, fr__law_same_0, p__law_same_0, s__law_told, fr__law_told, p__law_told, s__law_all_malformed, fr__law_all_malformed, p__law_all_malformed, s__law_great, fr__law_great, p__law_great, s__law_left, fr__law_left, p__law_left, s__law_turns, fr__law_turns, p__law_turns, s_law, fr_law, p_law]
      exact ⟨mulR (by omega) (by omega), hp _ _ _ (by omega) (by omega)⟩
    · exact hp _ _ _ (by omega) (by omega)
theorem left_ok {hi n q : Int} {P : D → D → Prop} {Ex : Exn → Prop} (n1 : 1 ≤ n) (n2 : n ≤ hi) (q1 : 2 ≤ q) (q2 : q ≤ 40) (h : P (.int (pl q (n.toNat - 1) + 1)) .non) : spLeft hi [.int n, .int q] P Ex := by
  refine ⟨_, _, rfl, rfl, rfl, fun z => ?_, fun n' q' e1 e2 _ _ _ _ => ?_⟩
  · simp [cnt, n1, n2, q1, q2] at z
  · cases e1; cases e2
    exact h
theorem left_bad {hi : Int} {d e : D} (hd : hasTy d = true) (he : hasTy e = true) (h : (cnt d 1 hi && cnt e 2 40) = false) : spLeft hi [d, e] (fun _ _ => False) (fun x => x = .mal) := by
  refine ⟨_, _, rfl, hd, he, fun _ => rfl, fun n q e1 e2 n1 n2 q1 q2 => ?_⟩
  subst e1; subst e2
  simp [cnt, n1, n2, q1, q2] at h
theorem left_mono {hi : Int} {ds : List D} {P P' : D → D → Prop} {Ex Ex' : Exn → Prop} (h : spLeft hi ds P Ex) (h1 : ∀ d e, P d e → P' d e) (h2 : ∀ x, Ex x → Ex' x) : spLeft hi ds P' Ex' := by
  obtain ⟨d, e, a, b, c, m, r⟩ := h
  exact ⟨d, e, a, b, c, fun z => h2 _ (m z), fun n q e1 e2 n1 n2 q1 q2 => h1 _ _ (r n q e1 e2 n1 n2 q1 q2)⟩
theorem g__law_same_0 : Good tx.T tx.ek f__law_same_0 := by
  refine goodV rfl rfl (by decide) fun ds P Ex h => ?_
  obtain ⟨d, j, rfl, hd, hs, hp⟩ := h
  refine ⟨rfl, ?_⟩
  show wS _ b__law_same_0 [.val d, .val (.int j), .emp] _
  unfold b__law_same_0
  simp only [st_for, st_nil, st_expr, st_asg, st_asgl, st_unp, st_par, st_app, st_seti, st_ret, st_retn, st_ife, st_brk, st_cnt, st_rmal, st_tr, wRet, e_var, e_int, e_bl, e_non, e_str, e_fnv, e_gint, e_bin, e_neg, e_not, e_cmp, e_chn, e_isn, e_ntn, e_and, e_or, e_ite, e_tup, e_lst, e_call, e_cio, e_clv, e_blt, e_isi, e_ix, e_slc, e_rev, e_lrng, e_lc, e_met, wA, wP, wAnd, wOr, wT, wTA, wTO, wI, wCs, wHnd, pk, at_, put, putAll, putCs, wTgt, rng_1, rng_2, cellOf, frE, frF, frB, isOwn, isOwnL, Op.rd, Cl.datum, List.getElem?_cons_zero, List.getElem?_cons_succ, List.getElem?_nil, Option.getD_some, Option.getD_none, List.set_cons_zero, List.set_cons_succ, ne_eq, reduceCtorEq, not_false_eq_true, not_true_eq_false, true_and, and_true, if_true, if_false, ite_true, ite_false, Bool.false_eq_true, Bool.true_eq_false, Bool.true_and, Bool.and_true, Bool.false_and, Bool.and_false, Bool.not_true, Bool.not_false, false_implies, true_implies, forall_const, implies_true, bin_add, bin_sub, bin_mul, bin_fdiv, bin_mod, bin_adds, bin_addt, bin_addl, bin_mull, bin_mult, cmp_lt, cmp_le, cmp_gt, cmp_ge, cmp_eqi, cmp_nei, cmp_eqb, cmp_eqs, tru_bl, tru_int, tru_non, tru_tup, tru_lst, tru_frz, ix_tup, len_tup, tpl_tup, lsl_tup, slc_tup, seq_tup, ix_lst, len_lst, tpl_lst, lsl_lst, slc_lst, seq_lst, ix_frz, len_frz, tpl_frz, lsl_frz, slc_frz, seq_frz, len_str, blt_abs, blt_int, blt_intb, blt_max, blt_min, blt_str, blt_all, blt_any, blt_sum, opt_0, opt_1, rng_1, rng_2, atI_0, atI_1, atI_2, atI_3, atI_4, ixN_20, ixN_21, ty_bl_int, ty_bl_bool, ty_bl_str, ty_bl_tuple, ty_bl_list, ht_bl, nn_bl, mu_bl, ty_int_int, ty_int_bool, ty_int_str, ty_int_tuple, ty_int_list, ht_int, nn_int, mu_int, ty_str_int, ty_str_bool, ty_str_str, ty_str_tuple, ty_str_list, ht_str, nn_str, mu_str, ty_tup_int, ty_tup_bool, ty_tup_str, ty_tup_tuple, ty_tup_list, ht_tup, nn_tup, mu_tup, ty_lst_int, ty_lst_bool, ty_lst_str, ty_lst_tuple, ty_lst_list, ht_lst, nn_lst, mu_lst, ty_frz_int, ty_frz_bool, ty_frz_str, ty_frz_tuple, ty_frz_list, ht_frz, nn_frz, mu_frz, ty_non_int, ty_non_bool, ty_non_str, ty_non_tuple, ty_non_list, ht_non, nn_non, mu_non, List.map_cons, List.map_nil, exists_eq_left', decide_eq_true_eq, exists_eq_left, List.length_cons, List.length_nil, Nat.reduceAdd, Int.reduceEq, Int.reduceLT, Int.reduceLE, Int.reduceNeg, decide_true, decide_false, Cl.own.injEq, List.mem_cons, List.not_mem_nil, or_false, forall_eq_or_imp, forall_eq, Option.some.injEq, s_is_integer, fr_is_integer, p_is_integer, s_is_count, fr_is_count, p_is_count, s_check_count, fr_check_count, p_check_count, s_left_over, fr_left_over, p_left_over, s_left_by_turns, fr_left_by_turns, p_left_by_turns, s__law_state, fr__law_state, p__law_state, s__law_take, fr__law_take, p__law_take, s__law_is_whole, fr__law_is_whole, p__law_is_whole, s__law_same_v, fr__law_same_v, p__law_same_v, s__law_same_0, fr__law_same_0, p__law_same_0, s__law_told, fr__law_told, p__law_told, s__law_all_malformed, fr__law_all_malformed, p__law_all_malformed, s__law_great, fr__law_great, p__law_great, s__law_left, fr__law_left, p__law_left, s__law_turns, fr__law_turns, p__law_turns, s_law, fr_law, p_law]
  refine ⟨d, rfl, hd, ?_⟩
  try simp only [st_for, st_nil, st_expr, st_asg, st_asgl, st_unp, st_par, st_app, st_seti, st_ret, st_retn, st_ife, st_brk, st_cnt, st_rmal, st_tr, wRet, e_var, e_int, e_bl, e_non, e_str, e_fnv, e_gint, e_bin, e_neg, e_not, e_cmp, e_chn, e_isn, e_ntn, e_and, e_or, e_ite, e_tup, e_lst, e_call, e_cio, e_clv, e_blt, e_isi, e_ix, e_slc, e_rev, e_lrng, e_lc, e_met, wA, wP, wAnd, wOr, wT, wTA, wTO, wI, wCs, wHnd, pk, at_, put, putAll, putCs, wTgt, rng_1, rng_2, cellOf, frE, frF, frB, isOwn, isOwnL, Op.rd, Cl.datum, List.getElem?_cons_zero, List.getElem?_cons_succ, List.getElem?_nil, Option.getD_some, Option.getD_none, List.set_cons_zero, List.set_cons_succ, ne_eq, reduceCtorEq, not_false_eq_true, not_true_eq_false, true_and, and_true, if_true, if_false, ite_true, ite_false, Bool.false_eq_true, Bool.true_eq_false, Bool.true_and, Bool.and_true, Bool.false_and, Bool.and_false, Bool.not_true, Bool.not_false, false_implies, true_implies, forall_const, implies_true, bin_add, bin_sub, bin_mul, bin_fdiv, bin_mod, bin_adds, bin_addt, bin_addl, bin_mull, bin_mult, cmp_lt, cmp_le, cmp_gt, cmp_ge, cmp_eqi, cmp_nei, cmp_eqb, cmp_eqs, tru_bl, tru_int, tru_non, tru_tup, tru_lst, tru_frz, ix_tup, len_tup, tpl_tup, lsl_tup, slc_tup, seq_tup, ix_lst, len_lst, tpl_lst, lsl_lst, slc_lst, seq_lst, ix_frz, len_frz, tpl_frz, lsl_frz, slc_frz, seq_frz, len_str, blt_abs, blt_int, blt_intb, blt_max, blt_min, blt_str, blt_all, blt_any, blt_sum, opt_0, opt_1, rng_1, rng_2, atI_0, atI_1, atI_2, atI_3, atI_4, ixN_20, ixN_21, ty_bl_int, ty_bl_bool, ty_bl_str, ty_bl_tuple, ty_bl_list, ht_bl, nn_bl, mu_bl, ty_int_int, ty_int_bool, ty_int_str, ty_int_tuple, ty_int_list, ht_int, nn_int, mu_int, ty_str_int, ty_str_bool, ty_str_str, ty_str_tuple, ty_str_list, ht_str, nn_str, mu_str, ty_tup_int, ty_tup_bool, ty_tup_str, ty_tup_tuple, ty_tup_list, ht_tup, nn_tup, mu_tup, ty_lst_int, ty_lst_bool, ty_lst_str, ty_lst_tuple, ty_lst_list, ht_lst, nn_lst, mu_lst, ty_frz_int, ty_frz_bool, ty_frz_str, ty_frz_tuple, ty_frz_list, ht_frz, nn_frz, mu_frz, ty_non_int, ty_non_bool, ty_non_str, ty_non_tuple, ty_non_list, ht_non, nn_non, mu_non, List.map_cons, List.map_nil, exists_eq_left', decide_eq_true_eq, exists_eq_left, List.length_cons, List.length_nil, Nat.reduceAdd, Int.reduceEq, Int.reduceLT, Int.reduceLE, Int.reduceNeg, decide_true, decide_false, Cl.own.injEq, List.mem_cons, List.not_mem_nil, or_false, forall_eq_or_imp, forall_eq, Option.some.injEq, s_is_integer, fr_is_integer, p_is_integer, s_is_count, fr_is_count, p_is_count, s_check_count, fr_check_count, p_check_count, s_left_over, fr_left_over, p_left_over, s_left_by_turns, fr_left_by_turns, p_left_by_turns, s__law_state, fr__law_state, p__law_state, s__law_take, fr__law_take, p__law_take, s__law_is_whole, fr__law_is_whole, p__law_is_whole, s__law_same_v, fr__law_same_v, p__law_same_v, s__law_same_0, fr__law_same_0, p__law_same_0, s__law_told, fr__law_told, p__law_told, s__law_all_malformed, fr__law_all_malformed, p__law_all_malformed, s__law_great, fr__law_great, p__law_great, s__law_left, fr__law_left, p__law_left, s__law_turns, fr__law_turns, p__law_turns, s_law, fr_law, p_law]
  cases hi : isI d
  · rw [hi] at hp
    simpa using hp
  · rw [hi] at hp
    simp only [if_true, cmp_eq]
    exact ⟨.inl ⟨hs, rfl⟩, by simpa using hp⟩
theorem g__law_told : Good tx.T tx.ek f__law_told := by
  refine goodV rfl rfl (by decide) fun ds P Ex h => ?_
  obtain ⟨n, x, y, rfl, hv, hp⟩ := h
  refine ⟨rfl, ?_⟩
  show wS _ b__law_told [.val (.fn n), .val (.tup [x, y]), .emp] _
  unfold b__law_told
  simp only [st_for, st_nil, st_expr, st_asg, st_asgl, st_unp, st_par, st_app, st_seti, st_ret, st_retn, st_ife, st_brk, st_cnt, st_rmal, st_tr, wRet, e_var, e_int, e_bl, e_non, e_str, e_fnv, e_gint, e_bin, e_neg, e_not, e_cmp, e_chn, e_isn, e_ntn, e_and, e_or, e_ite, e_tup, e_lst, e_call, e_cio, e_clv, e_blt, e_isi, e_ix, e_slc, e_rev, e_lrng, e_lc, e_met, wA, wP, wAnd, wOr, wT, wTA, wTO, wI, wCs, wHnd, pk, at_, put, putAll, putCs, wTgt, rng_1, rng_2, cellOf, frE, frF, frB, isOwn, isOwnL, Op.rd, Cl.datum, List.getElem?_cons_zero, List.getElem?_cons_succ, List.getElem?_nil, Option.getD_some, Option.getD_none, List.set_cons_zero, List.set_cons_succ, ne_eq, reduceCtorEq, not_false_eq_true, not_true_eq_false, true_and, and_true, if_true, if_false, ite_true, ite_false, Bool.false_eq_true, Bool.true_eq_false, Bool.true_and, Bool.and_true, Bool.false_and, Bool.and_false, Bool.not_true, Bool.not_false, false_implies, true_implies, forall_const, implies_true, bin_add, bin_sub, bin_mul, bin_fdiv, bin_mod, bin_adds, bin_addt, bin_addl, bin_mull, bin_mult, cmp_lt, cmp_le, cmp_gt, cmp_ge, cmp_eqi, cmp_nei, cmp_eqb, cmp_eqs, tru_bl, tru_int, tru_non, tru_tup, tru_lst, tru_frz, ix_tup, len_tup, tpl_tup, lsl_tup, slc_tup, seq_tup, ix_lst, len_lst, tpl_lst, lsl_lst, slc_lst, seq_lst, ix_frz, len_frz, tpl_frz, lsl_frz, slc_frz, seq_frz, len_str, blt_abs, blt_int, blt_intb, blt_max, blt_min, blt_str, blt_all, blt_any, blt_sum, opt_0, opt_1, rng_1, rng_2, atI_0, atI_1, atI_2, atI_3, atI_4, ixN_20, ixN_21, ty_bl_int, ty_bl_bool, ty_bl_str, ty_bl_tuple, ty_bl_list, ht_bl, nn_bl, mu_bl, ty_int_int, ty_int_bool, ty_int_str, ty_int_tuple, ty_int_list, ht_int, nn_int, mu_int, ty_str_int, ty_str_bool, ty_str_str, ty_str_tuple, ty_str_list, ht_str, nn_str, mu_str, ty_tup_int, ty_tup_bool, ty_tup_str, ty_tup_tuple, ty_tup_list, ht_tup, nn_tup, mu_tup, ty_lst_int, ty_lst_bool, ty_lst_str, ty_lst_tuple, ty_lst_list, ht_lst, nn_lst, mu_lst, ty_frz_int, ty_frz_bool, ty_frz_str, ty_frz_tuple, ty_frz_list, ht_frz, nn_frz, mu_frz, ty_non_int, ty_non_bool, ty_non_str, ty_non_tuple, ty_non_list, ht_non, nn_non, mu_non, List.map_cons, List.map_nil, exists_eq_left', decide_eq_true_eq, exists_eq_left, List.length_cons, List.length_nil, Nat.reduceAdd, Int.reduceEq, Int.reduceLT, Int.reduceLE, Int.reduceNeg, decide_true, decide_false, Cl.own.injEq, List.mem_cons, List.not_mem_nil, or_false, forall_eq_or_imp, forall_eq, Option.some.injEq, s_is_integer, fr_is_integer, p_is_integer, s_is_count, fr_is_count, p_is_count, s_check_count, fr_check_count, p_check_count, s_left_over, fr_left_over, p_left_over, s_left_by_turns, fr_left_by_turns, p_left_by_turns, s__law_state, fr__law_state, p__law_state, s__law_take, fr__law_take, p__law_take, s__law_is_whole, fr__law_is_whole, p__law_is_whole, s__law_same_v, fr__law_same_v, p__law_same_v, s__law_same_0, fr__law_same_0, p__law_same_0, s__law_told, fr__law_told, p__law_told, s__law_all_malformed, fr__law_all_malformed, p__law_all_malformed, s__law_great, fr__law_great, p__law_great, s__law_left, fr__law_left, p__law_left, s__law_turns, fr__law_turns, p__law_turns, s_law, fr_law, p_law]
  have key : ∀ (X : Exn → Prop), X .mal → ((n = 3 ∨ n = 4) ∧ ∀ Q, (gxOf tx.T tx.ek f__law_told).sp n [x, y] Q X) := fun X hX => by
    unfold spv at hv
    split at hv
    · rename_i e
      subst e
      exact ⟨.inl rfl, fun Q => left_mono hv (fun _ _ z => z.elim) fun z e => by rw [e]; exact hX⟩
    · split at hv
      · rename_i e
        subst e
        exact ⟨.inr rfl, fun Q => left_mono hv (fun _ _ z => z.elim) fun z e => by rw [e]; exact hX⟩
      · exact hv.elim
  refine ⟨n, rfl, ?_, ?_, ?_⟩
  · rcases (key (fun _ => True) trivial).1 with rfl | rfl <;> decide
  · rcases (key (fun _ => True) trivial).1 with rfl | rfl <;> decide
  · exact (key _ hp).2 _
theorem g__law_all_malformed : Good tx.T tx.ek f__law_all_malformed := by
  refine goodV rfl rfl (by decide) fun ds P Ex h => ?_
  obtain ⟨its, rfl, hl, hm, hp⟩ := h
  refine ⟨rfl, ?_⟩
  show wS _ b__law_all_malformed [.val (.lst (its.map fun p => .tup [.fn p.1, .tup [p.2.1, p.2.2]])), .emp, .emp] _
  unfold b__law_all_malformed
  simp only [st_for, st_nil, st_expr, st_asg, st_asgl, st_unp, st_par, st_app, st_seti, st_ret, st_retn, st_ife, st_brk, st_cnt, st_rmal, st_tr, wRet, e_var, e_int, e_bl, e_non, e_str, e_fnv, e_gint, e_bin, e_neg, e_not, e_cmp, e_chn, e_isn, e_ntn, e_and, e_or, e_ite, e_tup, e_lst, e_call, e_cio, e_clv, e_blt, e_isi, e_ix, e_slc, e_rev, e_lrng, e_lc, e_met, wA, wP, wAnd, wOr, wT, wTA, wTO, wI, wCs, wHnd, pk, at_, put, putAll, putCs, wTgt, rng_1, rng_2, cellOf, frE, frF, frB, isOwn, isOwnL, Op.rd, Cl.datum, List.getElem?_cons_zero, List.getElem?_cons_succ, List.getElem?_nil, Option.getD_some, Option.getD_none, List.set_cons_zero, List.set_cons_succ, ne_eq, reduceCtorEq, not_false_eq_true, not_true_eq_false, true_and, and_true, if_true, if_false, ite_true, ite_false, Bool.false_eq_true, Bool.true_eq_false, Bool.true_and, Bool.and_true, Bool.false_and, Bool.and_false, Bool.not_true, Bool.not_false, false_implies, true_implies, forall_const, implies_true, bin_add, bin_sub, bin_mul, bin_fdiv, bin_mod, bin_adds, bin_addt, bin_addl, bin_mull, bin_mult, cmp_lt, cmp_le, cmp_gt, cmp_ge, cmp_eqi, cmp_nei, cmp_eqb, cmp_eqs, tru_bl, tru_int, tru_non, tru_tup, tru_lst, tru_frz, ix_tup, len_tup, tpl_tup, lsl_tup, slc_tup, seq_tup, ix_lst, len_lst, tpl_lst, lsl_lst, slc_lst, seq_lst, ix_frz, len_frz, tpl_frz, lsl_frz, slc_frz, seq_frz, len_str, blt_abs, blt_int, blt_intb, blt_max, blt_min, blt_str, blt_all, blt_any, blt_sum, opt_0, opt_1, rng_1, rng_2, atI_0, atI_1, atI_2, atI_3, atI_4, ixN_20, ixN_21, ty_bl_int, ty_bl_bool, ty_bl_str, ty_bl_tuple, ty_bl_list, ht_bl, nn_bl, mu_bl, ty_int_int, ty_int_bool, ty_int_str, ty_int_tuple, ty_int_list, ht_int, nn_int, mu_int, ty_str_int, ty_str_bool, ty_str_str, ty_str_tuple, ty_str_list, ht_str, nn_str, mu_str, ty_tup_int, ty_tup_bool, ty_tup_str, ty_tup_tuple, ty_tup_list, ht_tup, nn_tup, mu_tup, ty_lst_int, ty_lst_bool, ty_lst_str, ty_lst_tuple, ty_lst_list, ht_lst, nn_lst, mu_lst, ty_frz_int, ty_frz_bool, ty_frz_str, ty_frz_tuple, ty_frz_list, ht_frz, nn_frz, mu_frz, ty_non_int, ty_non_bool, ty_non_str, ty_non_tuple, ty_non_list, ht_non, nn_non, mu_non, List.map_cons, List.map_nil, exists_eq_left', decide_eq_true_eq, exists_eq_left, List.length_cons, List.length_nil, Nat.reduceAdd, Int.reduceEq, Int.reduceLT, Int.reduceLE, Int.reduceNeg, decide_true, decide_false, Cl.own.injEq, List.mem_cons, List.not_mem_nil, or_false, forall_eq_or_imp, forall_eq, Option.some.injEq, s_is_integer, fr_is_integer, p_is_integer, s_is_count, fr_is_count, p_is_count, s_check_count, fr_check_count, p_check_count, s_left_over, fr_left_over, p_left_over, s_left_by_turns, fr_left_by_turns, p_left_by_turns, s__law_state, fr__law_state, p__law_state, s__law_take, fr__law_take, p__law_take, s__law_is_whole, fr__law_is_whole, p__law_is_whole, s__law_same_v, fr__law_same_v, p__law_same_v, s__law_same_0, fr__law_same_0, p__law_same_0, s__law_told, fr__law_told, p__law_told, s__law_all_malformed, fr__law_all_malformed, p__law_all_malformed, s__law_great, fr__law_great, p__law_great, s__law_left, fr__law_left, p__law_left, s__law_turns, fr__law_turns, p__law_turns, s_law, fr_law, p_law]
  refine lcS_rule (fun i acc env => acc = List.replicate i (.bl true) ∧ ∃ c1 c2, env = [.val (.lst (its.map fun p => .tup [.fn p.1, .tup [p.2.1, p.2.2]])), c1, c2]) ⟨rfl, _, _, rfl⟩ (by rw [List.length_map]; unfold sizeLine; omega) (fun i acc env h => by rw [h.1, List.length_replicate]) ?_ ?_
  · rintro i d acc env k hd ⟨rfl, c1, c2, rfl⟩ hk
    rw [List.getElem?_map] at hd
    cases e : its[i]? with
    | none => rw [e] at hd; cases hd
    | some p =>
      rw [e] at hd
      cases hd
      simp only [st_for, st_nil, st_expr, st_asg, st_asgl, st_unp, st_par, st_app, st_seti, st_ret, st_retn, st_ife, st_brk, st_cnt, st_rmal, st_tr, wRet, e_var, e_int, e_bl, e_non, e_str, e_fnv, e_gint, e_bin, e_neg, e_not, e_cmp, e_chn, e_isn, e_ntn, e_and, e_or, e_ite, e_tup, e_lst, e_call, e_cio, e_clv, e_blt, e_isi, e_ix, e_slc, e_rev, e_lrng, e_lc, e_met, wA, wP, wAnd, wOr, wT, wTA, wTO, wI, wCs, wHnd, pk, at_, put, putAll, putCs, wTgt, rng_1, rng_2, cellOf, frE, frF, frB, isOwn, isOwnL, Op.rd, Cl.datum, List.getElem?_cons_zero, List.getElem?_cons_succ, List.getElem?_nil, Option.getD_some, Option.getD_none, List.set_cons_zero, List.set_cons_succ, ne_eq, reduceCtorEq, not_false_eq_true, not_true_eq_false, true_and, and_true, if_true, if_false, ite_true, ite_false, Bool.false_eq_true, Bool.true_eq_false, Bool.true_and, Bool.and_true, Bool.false_and, Bool.and_false, Bool.not_true, Bool.not_false, false_implies, true_implies, forall_const, implies_true, bin_add, bin_sub, bin_mul, bin_fdiv, bin_mod, bin_adds, bin_addt, bin_addl, bin_mull, bin_mult, cmp_lt, cmp_le, cmp_gt, cmp_ge, cmp_eqi, cmp_nei, cmp_eqb, cmp_eqs, tru_bl, tru_int, tru_non, tru_tup, tru_lst, tru_frz, ix_tup, len_tup, tpl_tup, lsl_tup, slc_tup, seq_tup, ix_lst, len_lst, tpl_lst, lsl_lst, slc_lst, seq_lst, ix_frz, len_frz, tpl_frz, lsl_frz, slc_frz, seq_frz, len_str, blt_abs, blt_int, blt_intb, blt_max, blt_min, blt_str, blt_all, blt_any, blt_sum, opt_0, opt_1, rng_1, rng_2, atI_0, atI_1, atI_2, atI_3, atI_4, ixN_20, ixN_21, ty_bl_int, ty_bl_bool, ty_bl_str, ty_bl_tuple, ty_bl_list, ht_bl, nn_bl, mu_bl, ty_int_int, ty_int_bool, ty_int_str, ty_int_tuple, ty_int_list, ht_int, nn_int, mu_int, ty_str_int, ty_str_bool, ty_str_str, ty_str_tuple, ty_str_list, ht_str, nn_str, mu_str, ty_tup_int, ty_tup_bool, ty_tup_str, ty_tup_tuple, ty_tup_list, ht_tup, nn_tup, mu_tup, ty_lst_int, ty_lst_bool, ty_lst_str, ty_lst_tuple, ty_lst_list, ht_lst, nn_lst, mu_lst, ty_frz_int, ty_frz_bool, ty_frz_str, ty_frz_tuple, ty_frz_list, ht_frz, nn_frz, mu_frz, ty_non_int, ty_non_bool, ty_non_str, ty_non_tuple, ty_non_list, ht_non, nn_non, mu_non, List.map_cons, List.map_nil, exists_eq_left', decide_eq_true_eq, exists_eq_left, List.length_cons, List.length_nil, Nat.reduceAdd, Int.reduceEq, Int.reduceLT, Int.reduceLE, Int.reduceNeg, decide_true, decide_false, Cl.own.injEq, List.mem_cons, List.not_mem_nil, or_false, forall_eq_or_imp, forall_eq, Option.some.injEq, s_is_integer, fr_is_integer, p_is_integer, s_is_count, fr_is_count, p_is_count, s_check_count, fr_check_count, p_check_count, s_left_over, fr_left_over, p_left_over, s_left_by_turns, fr_left_by_turns, p_left_by_turns, s__law_state, fr__law_state, p__law_state, s__law_take, fr__law_take, p__law_take, s__law_is_whole, fr__law_is_whole, p__law_is_whole, s__law_same_v, fr__law_same_v, p__law_same_v, s__law_same_0, fr__law_same_0, p__law_same_0, s__law_told, fr__law_told, p__law_told, s__law_all_malformed, fr__law_all_malformed, p__law_all_malformed, s__law_great, fr__law_great, p__law_great, s__law_left, fr__law_left, p__law_left, s__law_turns, fr__law_turns, p__law_turns, s_law, fr_law, p_law, wipeC]
      refine ⟨p.1, p.2.1, p.2.2, rfl, hm p (List.mem_of_getElem? e), ?_⟩
      simp only [st_for, st_nil, st_expr, st_asg, st_asgl, st_unp, st_par, st_app, st_seti, st_ret, st_retn, st_ife, st_brk, st_cnt, st_rmal, st_tr, wRet, e_var, e_int, e_bl, e_non, e_str, e_fnv, e_gint, e_bin, e_neg, e_not, e_cmp, e_chn, e_isn, e_ntn, e_and, e_or, e_ite, e_tup, e_lst, e_call, e_cio, e_clv, e_blt, e_isi, e_ix, e_slc, e_rev, e_lrng, e_lc, e_met, wA, wP, wAnd, wOr, wT, wTA, wTO, wI, wCs, wHnd, pk, at_, put, putAll, putCs, wTgt, rng_1, rng_2, cellOf, frE, frF, frB, isOwn, isOwnL, Op.rd, Cl.datum, List.getElem?_cons_zero, List.getElem?_cons_succ, List.getElem?_nil, Option.getD_some, Option.getD_none, List.set_cons_zero, List.set_cons_succ, ne_eq, reduceCtorEq, not_false_eq_true, not_true_eq_false, true_and, and_true, if_true, if_false, ite_true, ite_false, Bool.false_eq_true, Bool.true_eq_false, Bool.true_and, Bool.and_true, Bool.false_and, Bool.and_false, Bool.not_true, Bool.not_false, false_implies, true_implies, forall_const, implies_true, bin_add, bin_sub, bin_mul, bin_fdiv, bin_mod, bin_adds, bin_addt, bin_addl, bin_mull, bin_mult, cmp_lt, cmp_le, cmp_gt, cmp_ge, cmp_eqi, cmp_nei, cmp_eqb, cmp_eqs, tru_bl, tru_int, tru_non, tru_tup, tru_lst, tru_frz, ix_tup, len_tup, tpl_tup, lsl_tup, slc_tup, seq_tup, ix_lst, len_lst, tpl_lst, lsl_lst, slc_lst, seq_lst, ix_frz, len_frz, tpl_frz, lsl_frz, slc_frz, seq_frz, len_str, blt_abs, blt_int, blt_intb, blt_max, blt_min, blt_str, blt_all, blt_any, blt_sum, opt_0, opt_1, rng_1, rng_2, atI_0, atI_1, atI_2, atI_3, atI_4, ixN_20, ixN_21, ty_bl_int, ty_bl_bool, ty_bl_str, ty_bl_tuple, ty_bl_list, ht_bl, nn_bl, mu_bl, ty_int_int, ty_int_bool, ty_int_str, ty_int_tuple, ty_int_list, ht_int, nn_int, mu_int, ty_str_int, ty_str_bool, ty_str_str, ty_str_tuple, ty_str_list, ht_str, nn_str, mu_str, ty_tup_int, ty_tup_bool, ty_tup_str, ty_tup_tuple, ty_tup_list, ht_tup, nn_tup, mu_tup, ty_lst_int, ty_lst_bool, ty_lst_str, ty_lst_tuple, ty_lst_list, ht_lst, nn_lst, mu_lst, ty_frz_int, ty_frz_bool, ty_frz_str, ty_frz_tuple, ty_frz_list, ht_frz, nn_frz, mu_frz, ty_non_int, ty_non_bool, ty_non_str, ty_non_tuple, ty_non_list, ht_non, nn_non, mu_non, List.map_cons, List.map_nil, exists_eq_left', decide_eq_true_eq, exists_eq_left, List.length_cons, List.length_nil, Nat.reduceAdd, Int.reduceEq, Int.reduceLT, Int.reduceLE, Int.reduceNeg, decide_true, decide_false, Cl.own.injEq, List.mem_cons, List.not_mem_nil, or_false, forall_eq_or_imp, forall_eq, Option.some.injEq, s_is_integer, fr_is_integer, p_is_integer, s_is_count, fr_is_count, p_is_count, s_check_count, fr_check_count, p_check_count, s_left_over, fr_left_over, p_left_over, s_left_by_turns, fr_left_by_turns, p_left_by_turns, s__law_state, fr__law_state, p__law_state, s__law_take, fr__law_take, p__law_take, s__law_is_whole, fr__law_is_whole, p__law_is_whole, s__law_same_v, fr__law_same_v, p__law_same_v, s__law_same_0, fr__law_same_0, p__law_same_0, s__law_told, fr__law_told, p__law_told, s__law_all_malformed, fr__law_all_malformed, p__law_all_malformed, s__law_great, fr__law_great, p__law_great, s__law_left, fr__law_left, p__law_left, s__law_turns, fr__law_turns, p__law_turns, s_law, fr_law, p_law, cmp_eq]
      refine ⟨.inr ⟨⟨by decide +kernel, by decide +kernel⟩, by decide +kernel, by decide +kernel⟩, hk _ _ ⟨?_, _, _, rfl⟩⟩
      have e1 : eqD (.tup [.str "malformed", .non]) (.tup [.str "malformed", .non]) = true := by decide +kernel
      rw [List.replicate_succ', e1]
  · rintro acc env ⟨rfl, c1, c2, rfl⟩
    simp only [st_for, st_nil, st_expr, st_asg, st_asgl, st_unp, st_par, st_app, st_seti, st_ret, st_retn, st_ife, st_brk, st_cnt, st_rmal, st_tr, wRet, e_var, e_int, e_bl, e_non, e_str, e_fnv, e_gint, e_bin, e_neg, e_not, e_cmp, e_chn, e_isn, e_ntn, e_and, e_or, e_ite, e_tup, e_lst, e_call, e_cio, e_clv, e_blt, e_isi, e_ix, e_slc, e_rev, e_lrng, e_lc, e_met, wA, wP, wAnd, wOr, wT, wTA, wTO, wI, wCs, wHnd, pk, at_, put, putAll, putCs, wTgt, rng_1, rng_2, cellOf, frE, frF, frB, isOwn, isOwnL, Op.rd, Cl.datum, List.getElem?_cons_zero, List.getElem?_cons_succ, List.getElem?_nil, Option.getD_some, Option.getD_none, List.set_cons_zero, List.set_cons_succ, ne_eq, reduceCtorEq, not_false_eq_true, not_true_eq_false, true_and, and_true, if_true, if_false, ite_true, ite_false, Bool.false_eq_true, Bool.true_eq_false, Bool.true_and, Bool.and_true, Bool.false_and, Bool.and_false, Bool.not_true, Bool.not_false, false_implies, true_implies, forall_const, implies_true, bin_add, bin_sub, bin_mul, bin_fdiv, bin_mod, bin_adds, bin_addt, bin_addl, bin_mull, bin_mult, cmp_lt, cmp_le, cmp_gt, cmp_ge, cmp_eqi, cmp_nei, cmp_eqb, cmp_eqs, tru_bl, tru_int, tru_non, tru_tup, tru_lst, tru_frz, ix_tup, len_tup, tpl_tup, lsl_tup, slc_tup, seq_tup, ix_lst, len_lst, tpl_lst, lsl_lst, slc_lst, seq_lst, ix_frz, len_frz, tpl_frz, lsl_frz, slc_frz, seq_frz, len_str, blt_abs, blt_int, blt_intb, blt_max, blt_min, blt_str, blt_all, blt_any, blt_sum, opt_0, opt_1, rng_1, rng_2, atI_0, atI_1, atI_2, atI_3, atI_4, ixN_20, ixN_21, ty_bl_int, ty_bl_bool, ty_bl_str, ty_bl_tuple, ty_bl_list, ht_bl, nn_bl, mu_bl, ty_int_int, ty_int_bool, ty_int_str, ty_int_tuple, ty_int_list, ht_int, nn_int, mu_int, ty_str_int, ty_str_bool, ty_str_str, ty_str_tuple, ty_str_list, ht_str, nn_str, mu_str, ty_tup_int, ty_tup_bool, ty_tup_str, ty_tup_tuple, ty_tup_list, ht_tup, nn_tup, mu_tup, ty_lst_int, ty_lst_bool, ty_lst_str, ty_lst_tuple, ty_lst_list, ht_lst, nn_lst, mu_lst, ty_frz_int, ty_frz_bool, ty_frz_str, ty_frz_tuple, ty_frz_list, ht_frz, nn_frz, mu_frz, ty_non_int, ty_non_bool, ty_non_str, ty_non_tuple, ty_non_list, ht_non, nn_non, mu_non, List.map_cons, List.map_nil, exists_eq_left', decide_eq_true_eq, exists_eq_left, List.length_cons, List.length_nil, Nat.reduceAdd, Int.reduceEq, Int.reduceLT, Int.reduceLE, Int.reduceNeg, decide_true, decide_false, Cl.own.injEq, List.mem_cons, List.not_mem_nil, or_false, forall_eq_or_imp, forall_eq, Option.some.injEq, s_is_integer, fr_is_integer, p_is_integer, s_is_count, fr_is_count, p_is_count, s_check_count, fr_check_count, p_check_count, s_left_over, fr_left_over, p_left_over, s_left_by_turns, fr_left_by_turns, p_left_by_turns, s__law_state, fr__law_state, p__law_state, s__law_take, fr__law_take, p__law_take, s__law_is_whole, fr__law_is_whole, p__law_is_whole, s__law_same_v, fr__law_same_v, p__law_same_v, s__law_same_0, fr__law_same_0, p__law_same_0, s__law_told, fr__law_told, p__law_told, s__law_all_malformed, fr__law_all_malformed, p__law_all_malformed, s__law_great, fr__law_great, p__law_great, s__law_left, fr__law_left, p__law_left, s__law_turns, fr__law_turns, p__law_turns, s_law, fr_law, p_law, wipeC, backC]
    refine ⟨_, bls_rep _ _, ?_⟩
    simpa using hp
theorem g__law_left : Good tx.T tx.ek f__law_left := by
  refine goodV rfl rfl (by decide) fun ds P Ex h => ?_
  obtain ⟨n, q, rfl, n1, n2, q1, q2, hp⟩ := h
  refine ⟨rfl, ?_⟩
  show wS _ b__law_left [.val (.int n), .val (.int q), .emp, .emp] _
  unfold b__law_left
  simp only [st_for, st_nil, st_expr, st_asg, st_asgl, st_unp, st_par, st_app, st_seti, st_ret, st_retn, st_ife, st_brk, st_cnt, st_rmal, st_tr, wRet, e_var, e_int, e_bl, e_non, e_str, e_fnv, e_gint, e_bin, e_neg, e_not, e_cmp, e_chn, e_isn, e_ntn, e_and, e_or, e_ite, e_tup, e_lst, e_call, e_cio, e_clv, e_blt, e_isi, e_ix, e_slc, e_rev, e_lrng, e_lc, e_met, wA, wP, wAnd, wOr, wT, wTA, wTO, wI, wCs, wHnd, pk, at_, put, putAll, putCs, wTgt, rng_1, rng_2, cellOf, frE, frF, frB, isOwn, isOwnL, Op.rd, Cl.datum, List.getElem?_cons_zero, List.getElem?_cons_succ, List.getElem?_nil, Option.getD_some, Option.getD_none, List.set_cons_zero, List.set_cons_succ, ne_eq, reduceCtorEq, not_false_eq_true, not_true_eq_false, true_and, and_true, if_true, if_false, ite_true, ite_false, Bool.false_eq_true, Bool.true_eq_false, Bool.true_and, Bool.and_true, Bool.false_and, Bool.and_false, Bool.not_true, Bool.not_false, false_implies, true_implies, forall_const, implies_true, bin_add, bin_sub, bin_mul, bin_fdiv, bin_mod, bin_adds, bin_addt, bin_addl, bin_mull, bin_mult, cmp_lt, cmp_le, cmp_gt, cmp_ge, cmp_eqi, cmp_nei, cmp_eqb, cmp_eqs, tru_bl, tru_int, tru_non, tru_tup, tru_lst, tru_frz, ix_tup, len_tup, tpl_tup, lsl_tup, slc_tup, seq_tup, ix_lst, len_lst, tpl_lst, lsl_lst, slc_lst, seq_lst, ix_frz, len_frz, tpl_frz, lsl_frz, slc_frz, seq_frz, len_str, blt_abs, blt_int, blt_intb, blt_max, blt_min, blt_str, blt_all, blt_any, blt_sum, opt_0, opt_1, rng_1, rng_2, atI_0, atI_1, atI_2, atI_3, atI_4, ixN_20, ixN_21, ty_bl_int, ty_bl_bool, ty_bl_str, ty_bl_tuple, ty_bl_list, ht_bl, nn_bl, mu_bl, ty_int_int, ty_int_bool, ty_int_str, ty_int_tuple, ty_int_list, ht_int, nn_int, mu_int, ty_str_int, ty_str_bool, ty_str_str, ty_str_tuple, ty_str_list, ht_str, nn_str, mu_str, ty_tup_int, ty_tup_bool, ty_tup_str, ty_tup_tuple, ty_tup_list, ht_tup, nn_tup, mu_tup, ty_lst_int, ty_lst_bool, ty_lst_str, ty_lst_tuple, ty_lst_list, ht_lst, nn_lst, mu_lst, ty_frz_int, ty_frz_bool, ty_frz_str, ty_frz_tuple, ty_frz_list, ht_frz, nn_frz, mu_frz, ty_non_int, ty_non_bool, ty_non_str, ty_non_tuple, ty_non_list, ht_non, nn_non, mu_non, List.map_cons, List.map_nil, exists_eq_left', decide_eq_true_eq, exists_eq_left, List.length_cons, List.length_nil, Nat.reduceAdd, Int.reduceEq, Int.reduceLT, Int.reduceLE, Int.reduceNeg, decide_true, decide_false, Cl.own.injEq, List.mem_cons, List.not_mem_nil, or_false, forall_eq_or_imp, forall_eq, Option.some.injEq, s_is_integer, fr_is_integer, p_is_integer, s_is_count, fr_is_count, p_is_count, s_check_count, fr_check_count, p_check_count, s_left_over, fr_left_over, p_left_over, s_left_by_turns, fr_left_by_turns, p_left_by_turns, s__law_state, fr__law_state, p__law_state, s__law_take, fr__law_take, p__law_take, s__law_is_whole, fr__law_is_whole, p__law_is_whole, s__law_same_v, fr__law_same_v, p__law_same_v, s__law_same_0, fr__law_same_0, p__law_same_0, s__law_told, fr__law_told, p__law_told, s__law_all_malformed, fr__law_all_malformed, p__law_all_malformed, s__law_great, fr__law_great, p__law_great, s__law_left, fr__law_left, p__law_left, s__law_turns, fr__law_turns, p__law_turns, s_law, fr_law, p_law]
  refine ⟨⟨by omega, by omega, by omega, by omega, by omega⟩, ?_⟩
  obtain ⟨b1, b2⟩ := pl_bd q1 (n.toNat - 1)
  refine whl_rule (fun m env => ∃ (l : List D) (i : Nat), l.length = m + 1 ∧ m < 200 ∧ i ≤ m + 1 ∧ l[(i + (pl q m).toNat) % (m + 1)]? = some (.int (pl q (n.toNat - 1) + 1)) ∧ env = [.val (.int n), .val (.int q), .own (.lst l), .val (.int (i : Nat))]) ⟨n.toNat - 1, _, .refl _ _, rngD 1 (n + 1), 0, ?_, by omega, by omega, ?_, rfl⟩ ?_
  · rw [rng_len]; omega
  · unfold rngD
    rw [List.getElem?_map, Nat.zero_add, Nat.mod_eq_of_lt (by omega), List.getElem?_range (by omega)]
    show some (D.int (1 + ((pl q (n.toNat - 1)).toNat : Nat))) = some (D.int (pl q (n.toNat - 1) + 1))
    rw [Int.toNat_of_nonneg b1, Int.add_comm]
  · rintro m env ⟨l, i, hl, hm, hi, ha, rfl⟩
    simp only [st_for, st_nil, st_expr, st_asg, st_asgl, st_unp, st_par, st_app, st_seti, st_ret, st_retn, st_ife, st_brk, st_cnt, st_rmal, st_tr, wRet, e_var, e_int, e_bl, e_non, e_str, e_fnv, e_gint, e_bin, e_neg, e_not, e_cmp, e_chn, e_isn, e_ntn, e_and, e_or, e_ite, e_tup, e_lst, e_call, e_cio, e_clv, e_blt, e_isi, e_ix, e_slc, e_rev, e_lrng, e_lc, e_met, wA, wP, wAnd, wOr, wT, wTA, wTO, wI, wCs, wHnd, pk, at_, put, putAll, putCs, wTgt, rng_1, rng_2, cellOf, frE, frF, frB, isOwn, isOwnL, Op.rd, Cl.datum, List.getElem?_cons_zero, List.getElem?_cons_succ, List.getElem?_nil, Option.getD_some, Option.getD_none, List.set_cons_zero, List.set_cons_succ, ne_eq, reduceCtorEq, not_false_eq_true, not_true_eq_false, true_and, and_true, if_true, if_false, ite_true, ite_false, Bool.false_eq_true, Bool.true_eq_false, Bool.true_and, Bool.and_true, Bool.false_and, Bool.and_false, Bool.not_true, Bool.not_false, false_implies, true_implies, forall_const, implies_true, bin_add, bin_sub, bin_mul, bin_fdiv, bin_mod, bin_adds, bin_addt, bin_addl, bin_mull, bin_mult, cmp_lt, cmp_le, cmp_gt, cmp_ge, cmp_eqi, cmp_nei, cmp_eqb, cmp_eqs, tru_bl, tru_int, tru_non, tru_tup, tru_lst, tru_frz, ix_tup, len_tup, tpl_tup, lsl_tup, slc_tup, seq_tup, ix_lst, len_lst, tpl_lst, lsl_lst, slc_lst, seq_lst, ix_frz, len_frz, tpl_frz, lsl_frz, slc_frz, seq_frz, len_str, blt_abs, blt_int, blt_intb, blt_max, blt_min, blt_str, blt_all, blt_any, blt_sum, opt_0, opt_1, rng_1, rng_2, atI_0, atI_1, atI_2, atI_3, atI_4, ixN_20, ixN_21, ty_bl_int, ty_bl_bool, ty_bl_str, ty_bl_tuple, ty_bl_list, ht_bl, nn_bl, mu_bl, ty_int_int, ty_int_bool, ty_int_str, ty_int_tuple, ty_int_list, ht_int, nn_int, mu_int, ty_str_int, ty_str_bool, ty_str_str, ty_str_tuple, ty_str_list, ht_str, nn_str, mu_str, ty_tup_int, ty_tup_bool, ty_tup_str, ty_tup_tuple, ty_tup_list, ht_tup, nn_tup, mu_tup, ty_lst_int, ty_lst_bool, ty_lst_str, ty_lst_tuple, ty_lst_list, ht_lst, nn_lst, mu_lst, ty_frz_int, ty_frz_bool, ty_frz_str, ty_frz_tuple, ty_frz_list, ht_frz, nn_frz, mu_frz, ty_non_int, ty_non_bool, ty_non_str, ty_non_tuple, ty_non_list, ht_non, nn_non, mu_non, List.map_cons, List.map_nil, exists_eq_left', decide_eq_true_eq, exists_eq_left, List.length_cons, List.length_nil, Nat.reduceAdd, Int.reduceEq, Int.reduceLT, Int.reduceLE, Int.reduceNeg, decide_true, decide_false, Cl.own.injEq, List.mem_cons, List.not_mem_nil, or_false, forall_eq_or_imp, forall_eq, Option.some.injEq, s_is_integer, fr_is_integer, p_is_integer, s_is_count, fr_is_count, p_is_count, s_check_count, fr_check_count, p_check_count, s_left_over, fr_left_over, p_left_over, s_left_by_turns, fr_left_by_turns, p_left_by_turns, s__law_state, fr__law_state, p__law_state, s__law_take, fr__law_take, p__law_take, s__law_is_whole, fr__law_is_whole, p__law_is_whole, s__law_same_v, fr__law_same_v, p__law_same_v, s__law_same_0, fr__law_same_0, p__law_same_0, s__law_told, fr__law_told, p__law_told, s__law_all_malformed, fr__law_all_malformed, p__law_all_malformed, s__law_great, fr__law_great, p__law_great, s__law_left, fr__law_left, p__law_left, s__law_turns, fr__law_turns, p__law_turns, s_law, fr_law, p_law]
    split
    · rename_i hc
      obtain ⟨m', rfl⟩ : ∃ m', m = m' + 1 := ⟨m - 1, by omega⟩
      have hlen : (l.length : Int) = (m' : Int) + 2 := by omega
      have hM : (0 : Int) < (m' : Int) + 2 := by omega
      have f1 := Int.fmod_nonneg_of_pos ((i : Int) + q - 1) hM
      have f2 := Int.fmod_lt_of_pos ((i : Int) + q - 1) hM
      obtain ⟨c1, c2⟩ := pl_bd q1 m'
      rw [hlen]
      refine ⟨by omega, ?_⟩
      rw [cut_to f1, cut_from (by omega)]
      have ej : (((i : Int) + q - 1).fmod ((m' : Int) + 2) + 1).toNat = (((i : Int) + q - 1).fmod ((m' : Int) + 2)).toNat + 1 := by omega
      rw [ej]
      have hj : (((i : Int) + q - 1).fmod ((m' : Int) + 2)).toNat ≤ m' + 1 := by omega
      have hlt : (l.take (((i : Int) + q - 1).fmod ((m' : Int) + 2)).toNat ++ l.drop ((((i : Int) + q - 1).fmod ((m' : Int) + 2)).toNat + 1)).length = m' + 1 := by
        rw [List.length_append, List.length_take, List.length_drop]; omega
      refine ⟨?_, _, m', .refl _ _, by omega, _, (((i : Int) + q - 1).fmod ((m' : Int) + 2)).toNat, hlt, by omega, hj, ?_, ?_⟩
      · rw [List.length_append] at hlt
        unfold sizeLine
        omega
      · rw [out_at hl hj (by omega), turn_at q1 i m']
        exact ha
      · rw [Int.toNat_of_nonneg f1]
    · have hm0 : m = 0 := by omega
      subst hm0
      rw [Nat.mod_one] at ha
      exact ⟨_, atI_nat (j := 0) ha, hp⟩
end Pd.K41

/-! k41: the law itself. -/
namespace Pd.K41
open L2 PyProof.Rows PySem.Spec PySem
theorem lo_ok {n q : Int} {P : D → D → Prop} {Ex : Exn → Prop} (n1 : 1 ≤ n) (n2 : n ≤ maxN) (q1 : 2 ≤ q) (q2 : q ≤ 40) (h : P (.int (pl q (n.toNat - 1) + 1)) .non) : f_left_over.sp [.int n, .int q] P Ex := left_ok n1 n2 q1 q2 h
theorem lt_ok {n q : Int} {P : D → D → Prop} {Ex : Exn → Prop} (n1 : 1 ≤ n) (n2 : n ≤ 2000) (q1 : 2 ≤ q) (q2 : q ≤ 40) (h : P (.int (pl q (n.toNat - 1) + 1)) .non) : f_left_by_turns.sp [.int n, .int q] P Ex := left_ok n1 n2 q1 q2 h
theorem same_eq {a b : Int} {P : D → D → Prop} {Ex : Exn → Prop} (e : a = b) (h : P (.bl true) .non) : f__law_same_0.sp [.int a, .int b] P Ex := by
  subst e
  refine ⟨_, _, rfl, rfl, rfl, ?_⟩
  have : (isI (.int a) && eqD (.int a) (.int a)) = true := by simp [isI, eqD]
  rw [this]
  exact h
abbrev tupO (p : Nat × D × D) : D := .tup [.fn p.1, .tup [p.2.1, p.2.2]]
theorem g_law : Good tx.T tx.ek f_law := by
  refine goodV rfl rfl (by decide) fun ds P Ex h => ?_
  obtain ⟨ns, hl, _, rfl, hp⟩ := h
  refine ⟨rfl, ?_⟩
  show wS _ b_law [.val (.frz (ns.map D.int)), .emp, .emp, .emp, .emp, .emp, .emp, .emp, .emp, .emp, .emp, .emp] _
  unfold b_law
  simp only [st_for, st_nil, st_ret, st_retn, st_brk, st_cnt, st_rmal, wRet, e_var, e_int, e_bl, e_non, e_str, e_fnv, e_gint, e_bin, e_neg, e_not, e_cmp, e_chn, e_isn, e_ntn, e_and, e_or, e_ite, e_tup, e_lst, e_call, e_cio, e_clv, e_blt, e_isi, e_ix, e_slc, e_rev, e_lrng, e_lc, e_met, wA, wP, wAnd, wOr, wT, wTA, wTO, wI, wCs, wHnd, pk, at_, put, putAll, putCs, wTgt, rng_1, rng_2, cellOf, frE, frF, frB, isOwn, isOwnL, Op.rd, Cl.datum, List.getElem?_cons_zero, List.getElem?_cons_succ, List.getElem?_nil, Option.getD_some, Option.getD_none, List.set_cons_zero, List.set_cons_succ, ne_eq, reduceCtorEq, not_false_eq_true, not_true_eq_false, true_and, and_true, if_true, if_false, ite_true, ite_false, Bool.false_eq_true, Bool.true_eq_false, Bool.true_and, Bool.and_true, Bool.false_and, Bool.and_false, Bool.not_true, Bool.not_false, false_implies, true_implies, forall_const, implies_true, bin_add, bin_sub, bin_mul, bin_fdiv, bin_mod, bin_adds, bin_addt, bin_addl, bin_mull, bin_mult, cmp_lt, cmp_le, cmp_gt, cmp_ge, cmp_eqi, cmp_nei, cmp_eqb, cmp_eqs, tru_bl, tru_int, tru_non, tru_tup, tru_lst, tru_frz, ix_tup, len_tup, tpl_tup, lsl_tup, slc_tup, seq_tup, ix_lst, len_lst, tpl_lst, lsl_lst, slc_lst, seq_lst, ix_frz, len_frz, tpl_frz, lsl_frz, slc_frz, seq_frz, len_str, blt_abs, blt_int, blt_intb, blt_max, blt_min, blt_str, blt_all, blt_any, blt_sum, opt_0, opt_1, rng_1, rng_2, atI_0, atI_1, atI_2, atI_3, atI_4, ixN_20, ixN_21, ty_bl_int, ty_bl_bool, ty_bl_str, ty_bl_tuple, ty_bl_list, ht_bl, nn_bl, mu_bl, ty_int_int, ty_int_bool, ty_int_str, ty_int_tuple, ty_int_list, ht_int, nn_int, mu_int, ty_str_int, ty_str_bool, ty_str_str, ty_str_tuple, ty_str_list, ht_str, nn_str, mu_str, ty_tup_int, ty_tup_bool, ty_tup_str, ty_tup_tuple, ty_tup_list, ht_tup, nn_tup, mu_tup, ty_lst_int, ty_lst_bool, ty_lst_str, ty_lst_tuple, ty_lst_list, ht_lst, nn_lst, mu_lst, ty_frz_int, ty_frz_bool, ty_frz_str, ty_frz_tuple, ty_frz_list, ht_frz, nn_frz, mu_frz, ty_non_int, ty_non_bool, ty_non_str, ty_non_tuple, ty_non_list, ht_non, nn_non, mu_non, List.map_cons, List.map_nil, exists_eq_left', decide_eq_true_eq, exists_eq_left, List.length_cons, List.length_nil, Nat.reduceAdd, Int.reduceEq, Int.reduceLT, Int.reduceLE, Int.reduceNeg, decide_true, decide_false, Cl.own.injEq, List.mem_cons, List.not_mem_nil, or_false, forall_eq_or_imp, forall_eq, Option.some.injEq, s_is_integer, fr_is_integer, p_is_integer, s_is_count, fr_is_count, p_is_count, s_check_count, fr_check_count, p_check_count, s_left_over, fr_left_over, p_left_over, s_left_by_turns, fr_left_by_turns, p_left_by_turns, s__law_state, fr__law_state, p__law_state, s__law_take, fr__law_take, p__law_take, s__law_is_whole, fr__law_is_whole, p__law_is_whole, s__law_same_v, fr__law_same_v, p__law_same_v, s__law_same_0, fr__law_same_0, p__law_same_0, s__law_told, fr__law_told, p__law_told, s__law_all_malformed, fr__law_all_malformed, p__law_all_malformed, s__law_great, fr__law_great, p__law_great, s__law_left, fr__law_left, p__law_left, s__law_turns, fr__law_turns, p__law_turns, s_law, fr_law, p_law, sn_expr, sn_asg, sn_asgl, sn_unp, sn_par, sn_app, sn_seti, sn_ife, sn_tr]
  refine ⟨ns, rfl, fun a b => ?_⟩
  ((try (dsimp only)); (try (rw [wN_eq])); try simp only [st_for, st_nil, st_ret, st_retn, st_brk, st_cnt, st_rmal, wRet, e_var, e_int, e_bl, e_non, e_str, e_fnv, e_gint, e_bin, e_neg, e_not, e_cmp, e_chn, e_isn, e_ntn, e_and, e_or, e_ite, e_tup, e_lst, e_call, e_cio, e_clv, e_blt, e_isi, e_ix, e_slc, e_rev, e_lrng, e_lc, e_met, wA, wP, wAnd, wOr, wT, wTA, wTO, wI, wCs, wHnd, pk, at_, put, putAll, putCs, wTgt, rng_1, rng_2, cellOf, frE, frF, frB, isOwn, isOwnL, Op.rd, Cl.datum, List.getElem?_cons_zero, List.getElem?_cons_succ, List.getElem?_nil, Option.getD_some, Option.getD_none, List.set_cons_zero, List.set_cons_succ, ne_eq, reduceCtorEq, not_false_eq_true, not_true_eq_false, true_and, and_true, if_true, if_false, ite_true, ite_false, Bool.false_eq_true, Bool.true_eq_false, Bool.true_and, Bool.and_true, Bool.false_and, Bool.and_false, Bool.not_true, Bool.not_false, false_implies, true_implies, forall_const, implies_true, bin_add, bin_sub, bin_mul, bin_fdiv, bin_mod, bin_adds, bin_addt, bin_addl, bin_mull, bin_mult, cmp_lt, cmp_le, cmp_gt, cmp_ge, cmp_eqi, cmp_nei, cmp_eqb, cmp_eqs, tru_bl, tru_int, tru_non, tru_tup, tru_lst, tru_frz, ix_tup, len_tup, tpl_tup, lsl_tup, slc_tup, seq_tup, ix_lst, len_lst, tpl_lst, lsl_lst, slc_lst, seq_lst, ix_frz, len_frz, tpl_frz, lsl_frz, slc_frz, seq_frz, len_str, blt_abs, blt_int, blt_intb, blt_max, blt_min, blt_str, blt_all, blt_any, blt_sum, opt_0, opt_1, rng_1, rng_2, atI_0, atI_1, atI_2, atI_3, atI_4, ixN_20, ixN_21, ty_bl_int, ty_bl_bool, ty_bl_str, ty_bl_tuple, ty_bl_list, ht_bl, nn_bl, mu_bl, ty_int_int, ty_int_bool, ty_int_str, ty_int_tuple, ty_int_list, ht_int, nn_int, mu_int, ty_str_int, ty_str_bool, ty_str_str, ty_str_tuple, ty_str_list, ht_str, nn_str, mu_str, ty_tup_int, ty_tup_bool, ty_tup_str, ty_tup_tuple, ty_tup_list, ht_tup, nn_tup, mu_tup, ty_lst_int, ty_lst_bool, ty_lst_str, ty_lst_tuple, ty_lst_list, ht_lst, nn_lst, mu_lst, ty_frz_int, ty_frz_bool, ty_frz_str, ty_frz_tuple, ty_frz_list, ht_frz, nn_frz, mu_frz, ty_non_int, ty_non_bool, ty_non_str, ty_non_tuple, ty_non_list, ht_non, nn_non, mu_non, List.map_cons, List.map_nil, exists_eq_left', decide_eq_true_eq, exists_eq_left, List.length_cons, List.length_nil, Nat.reduceAdd, Int.reduceEq, Int.reduceLT, Int.reduceLE, Int.reduceNeg, decide_true, decide_false, Cl.own.injEq, List.mem_cons, List.not_mem_nil, or_false, forall_eq_or_imp, forall_eq, Option.some.injEq, s_is_integer, fr_is_integer, p_is_integer, s_is_count, fr_is_count, p_is_count, s_check_count, fr_check_count, p_check_count, s_left_over, fr_left_over, p_left_over, s_left_by_turns, fr_left_by_turns, p_left_by_turns, s__law_state, fr__law_state, p__law_state, s__law_take, fr__law_take, p__law_take, s__law_is_whole, fr__law_is_whole, p__law_is_whole, s__law_same_v, fr__law_same_v, p__law_same_v, s__law_same_0, fr__law_same_0, p__law_same_0, s__law_told, fr__law_told, p__law_told, s__law_all_malformed, fr__law_all_malformed, p__law_all_malformed, s__law_great, fr__law_great, p__law_great, s__law_left, fr__law_left, p__law_left, s__law_turns, fr__law_turns, p__law_turns, s_law, fr_law, p_law, sn_expr, sn_asg, sn_asgl, sn_unp, sn_par, sn_app, sn_seti, sn_ife, sn_tr])
  refine ⟨a, b, 150, rfl, by omega, by omega, fun n a b n1 n2 => ?_⟩
  ((try (dsimp only)); (try (rw [wN_eq])); try simp only [st_for, st_nil, st_ret, st_retn, st_brk, st_cnt, st_rmal, wRet, e_var, e_int, e_bl, e_non, e_str, e_fnv, e_gint, e_bin, e_neg, e_not, e_cmp, e_chn, e_isn, e_ntn, e_and, e_or, e_ite, e_tup, e_lst, e_call, e_cio, e_clv, e_blt, e_isi, e_ix, e_slc, e_rev, e_lrng, e_lc, e_met, wA, wP, wAnd, wOr, wT, wTA, wTO, wI, wCs, wHnd, pk, at_, put, putAll, putCs, wTgt, rng_1, rng_2, cellOf, frE, frF, frB, isOwn, isOwnL, Op.rd, Cl.datum, List.getElem?_cons_zero, List.getElem?_cons_succ, List.getElem?_nil, Option.getD_some, Option.getD_none, List.set_cons_zero, List.set_cons_succ, ne_eq, reduceCtorEq, not_false_eq_true, not_true_eq_false, true_and, and_true, if_true, if_false, ite_true, ite_false, Bool.false_eq_true, Bool.true_eq_false, Bool.true_and, Bool.and_true, Bool.false_and, Bool.and_false, Bool.not_true, Bool.not_false, false_implies, true_implies, forall_const, implies_true, bin_add, bin_sub, bin_mul, bin_fdiv, bin_mod, bin_adds, bin_addt, bin_addl, bin_mull, bin_mult, cmp_lt, cmp_le, cmp_gt, cmp_ge, cmp_eqi, cmp_nei, cmp_eqb, cmp_eqs, tru_bl, tru_int, tru_non, tru_tup, tru_lst, tru_frz, ix_tup, len_tup, tpl_tup, lsl_tup, slc_tup, seq_tup, ix_lst, len_lst, tpl_lst, lsl_lst, slc_lst, seq_lst, ix_frz, len_frz, tpl_frz, lsl_frz, slc_frz, seq_frz, len_str, blt_abs, blt_int, blt_intb, blt_max, blt_min, blt_str, blt_all, blt_any, blt_sum, opt_0, opt_1, rng_1, rng_2, atI_0, atI_1, atI_2, atI_3, atI_4, ixN_20, ixN_21, ty_bl_int, ty_bl_bool, ty_bl_str, ty_bl_tuple, ty_bl_list, ht_bl, nn_bl, mu_bl, ty_int_int, ty_int_bool, ty_int_str, ty_int_tuple, ty_int_list, ht_int, nn_int, mu_int, ty_str_int, ty_str_bool, ty_str_str, ty_str_tuple, ty_str_list, ht_str, nn_str, mu_str, ty_tup_int, ty_tup_bool, ty_tup_str, ty_tup_tuple, ty_tup_list, ht_tup, nn_tup, mu_tup, ty_lst_int, ty_lst_bool, ty_lst_str, ty_lst_tuple, ty_lst_list, ht_lst, nn_lst, mu_lst, ty_frz_int, ty_frz_bool, ty_frz_str, ty_frz_tuple, ty_frz_list, ht_frz, nn_frz, mu_frz, ty_non_int, ty_non_bool, ty_non_str, ty_non_tuple, ty_non_list, ht_non, nn_non, mu_non, List.map_cons, List.map_nil, exists_eq_left', decide_eq_true_eq, exists_eq_left, List.length_cons, List.length_nil, Nat.reduceAdd, Int.reduceEq, Int.reduceLT, Int.reduceLE, Int.reduceNeg, decide_true, decide_false, Cl.own.injEq, List.mem_cons, List.not_mem_nil, or_false, forall_eq_or_imp, forall_eq, Option.some.injEq, s_is_integer, fr_is_integer, p_is_integer, s_is_count, fr_is_count, p_is_count, s_check_count, fr_check_count, p_check_count, s_left_over, fr_left_over, p_left_over, s_left_by_turns, fr_left_by_turns, p_left_by_turns, s__law_state, fr__law_state, p__law_state, s__law_take, fr__law_take, p__law_take, s__law_is_whole, fr__law_is_whole, p__law_is_whole, s__law_same_v, fr__law_same_v, p__law_same_v, s__law_same_0, fr__law_same_0, p__law_same_0, s__law_told, fr__law_told, p__law_told, s__law_all_malformed, fr__law_all_malformed, p__law_all_malformed, s__law_great, fr__law_great, p__law_great, s__law_left, fr__law_left, p__law_left, s__law_turns, fr__law_turns, p__law_turns, s_law, fr_law, p_law, sn_expr, sn_asg, sn_asgl, sn_unp, sn_par, sn_app, sn_seti, sn_ife, sn_tr])
  refine ⟨a, b, 39, rfl, by omega, by omega, fun q a b q1 q2 => ?_⟩
  ((try (dsimp only)); (try (rw [wN_eq])); try simp only [st_for, st_nil, st_ret, st_retn, st_brk, st_cnt, st_rmal, wRet, e_var, e_int, e_bl, e_non, e_str, e_fnv, e_gint, e_bin, e_neg, e_not, e_cmp, e_chn, e_isn, e_ntn, e_and, e_or, e_ite, e_tup, e_lst, e_call, e_cio, e_clv, e_blt, e_isi, e_ix, e_slc, e_rev, e_lrng, e_lc, e_met, wA, wP, wAnd, wOr, wT, wTA, wTO, wI, wCs, wHnd, pk, at_, put, putAll, putCs, wTgt, rng_1, rng_2, cellOf, frE, frF, frB, isOwn, isOwnL, Op.rd, Cl.datum, List.getElem?_cons_zero, List.getElem?_cons_succ, List.getElem?_nil, Option.getD_some, Option.getD_none, List.set_cons_zero, List.set_cons_succ, ne_eq, reduceCtorEq, not_false_eq_true, not_true_eq_false, true_and, and_true, if_true, if_false, ite_true, ite_false, Bool.false_eq_true, Bool.true_eq_false, Bool.true_and, Bool.and_true, Bool.false_and, Bool.and_false, Bool.not_true, Bool.not_false, false_implies, true_implies, forall_const, implies_true, bin_add, bin_sub, bin_mul, bin_fdiv, bin_mod, bin_adds, bin_addt, bin_addl, bin_mull, bin_mult, cmp_lt, cmp_le, cmp_gt, cmp_ge, cmp_eqi, cmp_nei, cmp_eqb, cmp_eqs, tru_bl, tru_int, tru_non, tru_tup, tru_lst, tru_frz, ix_tup, len_tup, tpl_tup, lsl_tup, slc_tup, seq_tup, ix_lst, len_lst, tpl_lst, lsl_lst, slc_lst, seq_lst, ix_frz, len_frz, tpl_frz, lsl_frz, slc_frz, seq_frz, len_str, blt_abs, blt_int, blt_intb, blt_max, blt_min, blt_str, blt_all, blt_any, blt_sum, opt_0, opt_1, rng_1, rng_2, atI_0, atI_1, atI_2, atI_3, atI_4, ixN_20, ixN_21, ty_bl_int, ty_bl_bool, ty_bl_str, ty_bl_tuple, ty_bl_list, ht_bl, nn_bl, mu_bl, ty_int_int, ty_int_bool, ty_int_str, ty_int_tuple, ty_int_list, ht_int, nn_int, mu_int, ty_str_int, ty_str_bool, ty_str_str, ty_str_tuple, ty_str_list, ht_str, nn_str, mu_str, ty_tup_int, ty_tup_bool, ty_tup_str, ty_tup_tuple, ty_tup_list, ht_tup, nn_tup, mu_tup, ty_lst_int, ty_lst_bool, ty_lst_str, ty_lst_tuple, ty_lst_list, ht_lst, nn_lst, mu_lst, ty_frz_int, ty_frz_bool, ty_frz_str, ty_frz_tuple, ty_frz_list, ht_frz, nn_frz, mu_frz, ty_non_int, ty_non_bool, ty_non_str, ty_non_tuple, ty_non_list, ht_non, nn_non, mu_non, List.map_cons, List.map_nil, exists_eq_left', decide_eq_true_eq, exists_eq_left, List.length_cons, List.length_nil, Nat.reduceAdd, Int.reduceEq, Int.reduceLT, Int.reduceLE, Int.reduceNeg, decide_true, decide_false, Cl.own.injEq, List.mem_cons, List.not_mem_nil, or_false, forall_eq_or_imp, forall_eq, Option.some.injEq, s_is_integer, fr_is_integer, p_is_integer, s_is_count, fr_is_count, p_is_count, s_check_count, fr_check_count, p_check_count, s_left_over, fr_left_over, p_left_over, s_left_by_turns, fr_left_by_turns, p_left_by_turns, s__law_state, fr__law_state, p__law_state, s__law_take, fr__law_take, p__law_take, s__law_is_whole, fr__law_is_whole, p__law_is_whole, s__law_same_v, fr__law_same_v, p__law_same_v, s__law_same_0, fr__law_same_0, p__law_same_0, s__law_told, fr__law_told, p__law_told, s__law_all_malformed, fr__law_all_malformed, p__law_all_malformed, s__law_great, fr__law_great, p__law_great, s__law_left, fr__law_left, p__law_left, s__law_turns, fr__law_turns, p__law_turns, s_law, fr_law, p_law, sn_expr, sn_asg, sn_asgl, sn_unp, sn_par, sn_app, sn_seti, sn_ife, sn_tr])
  refine ⟨1 + n, 2 + q, rfl, by omega, by omega, by omega, by omega, ?_⟩
  ((try (dsimp only)); (try (rw [wN_eq])); try simp only [st_for, st_nil, st_ret, st_retn, st_brk, st_cnt, st_rmal, wRet, e_var, e_int, e_bl, e_non, e_str, e_fnv, e_gint, e_bin, e_neg, e_not, e_cmp, e_chn, e_isn, e_ntn, e_and, e_or, e_ite, e_tup, e_lst, e_call, e_cio, e_clv, e_blt, e_isi, e_ix, e_slc, e_rev, e_lrng, e_lc, e_met, wA, wP, wAnd, wOr, wT, wTA, wTO, wI, wCs, wHnd, pk, at_, put, putAll, putCs, wTgt, rng_1, rng_2, cellOf, frE, frF, frB, isOwn, isOwnL, Op.rd, Cl.datum, List.getElem?_cons_zero, List.getElem?_cons_succ, List.getElem?_nil, Option.getD_some, Option.getD_none, List.set_cons_zero, List.set_cons_succ, ne_eq, reduceCtorEq, not_false_eq_true, not_true_eq_false, true_and, and_true, if_true, if_false, ite_true, ite_false, Bool.false_eq_true, Bool.true_eq_false, Bool.true_and, Bool.and_true, Bool.false_and, Bool.and_false, Bool.not_true, Bool.not_false, false_implies, true_implies, forall_const, implies_true, bin_add, bin_sub, bin_mul, bin_fdiv, bin_mod, bin_adds, bin_addt, bin_addl, bin_mull, bin_mult, cmp_lt, cmp_le, cmp_gt, cmp_ge, cmp_eqi, cmp_nei, cmp_eqb, cmp_eqs, tru_bl, tru_int, tru_non, tru_tup, tru_lst, tru_frz, ix_tup, len_tup, tpl_tup, lsl_tup, slc_tup, seq_tup, ix_lst, len_lst, tpl_lst, lsl_lst, slc_lst, seq_lst, ix_frz, len_frz, tpl_frz, lsl_frz, slc_frz, seq_frz, len_str, blt_abs, blt_int, blt_intb, blt_max, blt_min, blt_str, blt_all, blt_any, blt_sum, opt_0, opt_1, rng_1, rng_2, atI_0, atI_1, atI_2, atI_3, atI_4, ixN_20, ixN_21, ty_bl_int, ty_bl_bool, ty_bl_str, ty_bl_tuple, ty_bl_list, ht_bl, nn_bl, mu_bl, ty_int_int, ty_int_bool, ty_int_str, ty_int_tuple, ty_int_list, ht_int, nn_int, mu_int, ty_str_int, ty_str_bool, ty_str_str, ty_str_tuple, ty_str_list, ht_str, nn_str, mu_str, ty_tup_int, ty_tup_bool, ty_tup_str, ty_tup_tuple, ty_tup_list, ht_tup, nn_tup, mu_tup, ty_lst_int, ty_lst_bool, ty_lst_str, ty_lst_tuple, ty_lst_list, ht_lst, nn_lst, mu_lst, ty_frz_int, ty_frz_bool, ty_frz_str, ty_frz_tuple, ty_frz_list, ht_frz, nn_frz, mu_frz, ty_non_int, ty_non_bool, ty_non_str, ty_non_tuple, ty_non_list, ht_non, nn_non, mu_non, List.map_cons, List.map_nil, exists_eq_left', decide_eq_true_eq, exists_eq_left, List.length_cons, List.length_nil, Nat.reduceAdd, Int.reduceEq, Int.reduceLT, Int.reduceLE, Int.reduceNeg, decide_true, decide_false, Cl.own.injEq, List.mem_cons, List.not_mem_nil, or_false, forall_eq_or_imp, forall_eq, Option.some.injEq, s_is_integer, fr_is_integer, p_is_integer, s_is_count, fr_is_count, p_is_count, s_check_count, fr_check_count, p_check_count, s_left_over, fr_left_over, p_left_over, s_left_by_turns, fr_left_by_turns, p_left_by_turns, s__law_state, fr__law_state, p__law_state, s__law_take, fr__law_take, p__law_take, s__law_is_whole, fr__law_is_whole, p__law_is_whole, s__law_same_v, fr__law_same_v, p__law_same_v, s__law_same_0, fr__law_same_0, p__law_same_0, s__law_told, fr__law_told, p__law_told, s__law_all_malformed, fr__law_all_malformed, p__law_all_malformed, s__law_great, fr__law_great, p__law_great, s__law_left, fr__law_left, p__law_left, s__law_turns, fr__law_turns, p__law_turns, s_law, fr_law, p_law, sn_expr, sn_asg, sn_asgl, sn_unp, sn_par, sn_app, sn_seti, sn_ife, sn_tr])
  refine lo_ok (by omega) (by unfold maxN; omega) (by omega) (by omega) ?_
  refine same_eq rfl ?_
  ((try (dsimp only)); (try (rw [wN_eq])); try simp only [st_for, st_nil, st_ret, st_retn, st_brk, st_cnt, st_rmal, wRet, e_var, e_int, e_bl, e_non, e_str, e_fnv, e_gint, e_bin, e_neg, e_not, e_cmp, e_chn, e_isn, e_ntn, e_and, e_or, e_ite, e_tup, e_lst, e_call, e_cio, e_clv, e_blt, e_isi, e_ix, e_slc, e_rev, e_lrng, e_lc, e_met, wA, wP, wAnd, wOr, wT, wTA, wTO, wI, wCs, wHnd, pk, at_, put, putAll, putCs, wTgt, rng_1, rng_2, cellOf, frE, frF, frB, isOwn, isOwnL, Op.rd, Cl.datum, List.getElem?_cons_zero, List.getElem?_cons_succ, List.getElem?_nil, Option.getD_some, Option.getD_none, List.set_cons_zero, List.set_cons_succ, ne_eq, reduceCtorEq, not_false_eq_true, not_true_eq_false, true_and, and_true, if_true, if_false, ite_true, ite_false, Bool.false_eq_true, Bool.true_eq_false, Bool.true_and, Bool.and_true, Bool.false_and, Bool.and_false, Bool.not_true, Bool.not_false, false_implies, true_implies, forall_const, implies_true, bin_add, bin_sub, bin_mul, bin_fdiv, bin_mod, bin_adds, bin_addt, bin_addl, bin_mull, bin_mult, cmp_lt, cmp_le, cmp_gt, cmp_ge, cmp_eqi, cmp_nei, cmp_eqb, cmp_eqs, tru_bl, tru_int, tru_non, tru_tup, tru_lst, tru_frz, ix_tup, len_tup, tpl_tup, lsl_tup, slc_tup, seq_tup, ix_lst, len_lst, tpl_lst, lsl_lst, slc_lst, seq_lst, ix_frz, len_frz, tpl_frz, lsl_frz, slc_frz, seq_frz, len_str, blt_abs, blt_int, blt_intb, blt_max, blt_min, blt_str, blt_all, blt_any, blt_sum, opt_0, opt_1, rng_1, rng_2, atI_0, atI_1, atI_2, atI_3, atI_4, ixN_20, ixN_21, ty_bl_int, ty_bl_bool, ty_bl_str, ty_bl_tuple, ty_bl_list, ht_bl, nn_bl, mu_bl, ty_int_int, ty_int_bool, ty_int_str, ty_int_tuple, ty_int_list, ht_int, nn_int, mu_int, ty_str_int, ty_str_bool, ty_str_str, ty_str_tuple, ty_str_list, ht_str, nn_str, mu_str, ty_tup_int, ty_tup_bool, ty_tup_str, ty_tup_tuple, ty_tup_list, ht_tup, nn_tup, mu_tup, ty_lst_int, ty_lst_bool, ty_lst_str, ty_lst_tuple, ty_lst_list, ht_lst, nn_lst, mu_lst, ty_frz_int, ty_frz_bool, ty_frz_str, ty_frz_tuple, ty_frz_list, ht_frz, nn_frz, mu_frz, ty_non_int, ty_non_bool, ty_non_str, ty_non_tuple, ty_non_list, ht_non, nn_non, mu_non, List.map_cons, List.map_nil, exists_eq_left', decide_eq_true_eq, exists_eq_left, List.length_cons, List.length_nil, Nat.reduceAdd, Int.reduceEq, Int.reduceLT, Int.reduceLE, Int.reduceNeg, decide_true, decide_false, Cl.own.injEq, List.mem_cons, List.not_mem_nil, or_false, forall_eq_or_imp, forall_eq, Option.some.injEq, s_is_integer, fr_is_integer, p_is_integer, s_is_count, fr_is_count, p_is_count, s_check_count, fr_check_count, p_check_count, s_left_over, fr_left_over, p_left_over, s_left_by_turns, fr_left_by_turns, p_left_by_turns, s__law_state, fr__law_state, p__law_state, s__law_take, fr__law_take, p__law_take, s__law_is_whole, fr__law_is_whole, p__law_is_whole, s__law_same_v, fr__law_same_v, p__law_same_v, s__law_same_0, fr__law_same_0, p__law_same_0, s__law_told, fr__law_told, p__law_told, s__law_all_malformed, fr__law_all_malformed, p__law_all_malformed, s__law_great, fr__law_great, p__law_great, s__law_left, fr__law_left, p__law_left, s__law_turns, fr__law_turns, p__law_turns, s_law, fr_law, p_law, sn_expr, sn_asg, sn_asgl, sn_unp, sn_par, sn_app, sn_seti, sn_ife, sn_tr])
  refine lt_ok (by omega) (by omega) (by omega) (by omega) ?_
  refine same_eq rfl ?_
  ((try (dsimp only)); (try (rw [wN_eq])); try simp only [st_for, st_nil, st_ret, st_retn, st_brk, st_cnt, st_rmal, wRet, e_var, e_int, e_bl, e_non, e_str, e_fnv, e_gint, e_bin, e_neg, e_not, e_cmp, e_chn, e_isn, e_ntn, e_and, e_or, e_ite, e_tup, e_lst, e_call, e_cio, e_clv, e_blt, e_isi, e_ix, e_slc, e_rev, e_lrng, e_lc, e_met, wA, wP, wAnd, wOr, wT, wTA, wTO, wI, wCs, wHnd, pk, at_, put, putAll, putCs, wTgt, rng_1, rng_2, cellOf, frE, frF, frB, isOwn, isOwnL, Op.rd, Cl.datum, List.getElem?_cons_zero, List.getElem?_cons_succ, List.getElem?_nil, Option.getD_some, Option.getD_none, List.set_cons_zero, List.set_cons_succ, ne_eq, reduceCtorEq, not_false_eq_true, not_true_eq_false, true_and, and_true, if_true, if_false, ite_true, ite_false, Bool.false_eq_true, Bool.true_eq_false, Bool.true_and, Bool.and_true, Bool.false_and, Bool.and_false, Bool.not_true, Bool.not_false, false_implies, true_implies, forall_const, implies_true, bin_add, bin_sub, bin_mul, bin_fdiv, bin_mod, bin_adds, bin_addt, bin_addl, bin_mull, bin_mult, cmp_lt, cmp_le, cmp_gt, cmp_ge, cmp_eqi, cmp_nei, cmp_eqb, cmp_eqs, tru_bl, tru_int, tru_non, tru_tup, tru_lst, tru_frz, ix_tup, len_tup, tpl_tup, lsl_tup, slc_tup, seq_tup, ix_lst, len_lst, tpl_lst, lsl_lst, slc_lst, seq_lst, ix_frz, len_frz, tpl_frz, lsl_frz, slc_frz, seq_frz, len_str, blt_abs, blt_int, blt_intb, blt_max, blt_min, blt_str, blt_all, blt_any, blt_sum, opt_0, opt_1, rng_1, rng_2, atI_0, atI_1, atI_2, atI_3, atI_4, ixN_20, ixN_21, ty_bl_int, ty_bl_bool, ty_bl_str, ty_bl_tuple, ty_bl_list, ht_bl, nn_bl, mu_bl, ty_int_int, ty_int_bool, ty_int_str, ty_int_tuple, ty_int_list, ht_int, nn_int, mu_int, ty_str_int, ty_str_bool, ty_str_str, ty_str_tuple, ty_str_list, ht_str, nn_str, mu_str, ty_tup_int, ty_tup_bool, ty_tup_str, ty_tup_tuple, ty_tup_list, ht_tup, nn_tup, mu_tup, ty_lst_int, ty_lst_bool, ty_lst_str, ty_lst_tuple, ty_lst_list, ht_lst, nn_lst, mu_lst, ty_frz_int, ty_frz_bool, ty_frz_str, ty_frz_tuple, ty_frz_list, ht_frz, nn_frz, mu_frz, ty_non_int, ty_non_bool, ty_non_str, ty_non_tuple, ty_non_list, ht_non, nn_non, mu_non, List.map_cons, List.map_nil, exists_eq_left', decide_eq_true_eq, exists_eq_left, List.length_cons, List.length_nil, Nat.reduceAdd, Int.reduceEq, Int.reduceLT, Int.reduceLE, Int.reduceNeg, decide_true, decide_false, Cl.own.injEq, List.mem_cons, List.not_mem_nil, or_false, forall_eq_or_imp, forall_eq, Option.some.injEq, s_is_integer, fr_is_integer, p_is_integer, s_is_count, fr_is_count, p_is_count, s_check_count, fr_check_count, p_check_count, s_left_over, fr_left_over, p_left_over, s_left_by_turns, fr_left_by_turns, p_left_by_turns, s__law_state, fr__law_state, p__law_state, s__law_take, fr__law_take, p__law_take, s__law_is_whole, fr__law_is_whole, p__law_is_whole, s__law_same_v, fr__law_same_v, p__law_same_v, s__law_same_0, fr__law_same_0, p__law_same_0, s__law_told, fr__law_told, p__law_told, s__law_all_malformed, fr__law_all_malformed, p__law_all_malformed, s__law_great, fr__law_great, p__law_great, s__law_left, fr__law_left, p__law_left, s__law_turns, fr__law_turns, p__law_turns, s_law, fr_law, p_law, sn_expr, sn_asg, sn_asgl, sn_unp, sn_par, sn_app, sn_seti, sn_ife, sn_tr])
  refine ⟨a, b, 2000, rfl, by omega, by omega, fun m a b m1 m2 => ?_⟩
  ((try (dsimp only)); (try (rw [wN_eq])); try simp only [st_for, st_nil, st_ret, st_retn, st_brk, st_cnt, st_rmal, wRet, e_var, e_int, e_bl, e_non, e_str, e_fnv, e_gint, e_bin, e_neg, e_not, e_cmp, e_chn, e_isn, e_ntn, e_and, e_or, e_ite, e_tup, e_lst, e_call, e_cio, e_clv, e_blt, e_isi, e_ix, e_slc, e_rev, e_lrng, e_lc, e_met, wA, wP, wAnd, wOr, wT, wTA, wTO, wI, wCs, wHnd, pk, at_, put, putAll, putCs, wTgt, rng_1, rng_2, cellOf, frE, frF, frB, isOwn, isOwnL, Op.rd, Cl.datum, List.getElem?_cons_zero, List.getElem?_cons_succ, List.getElem?_nil, Option.getD_some, Option.getD_none, List.set_cons_zero, List.set_cons_succ, ne_eq, reduceCtorEq, not_false_eq_true, not_true_eq_false, true_and, and_true, if_true, if_false, ite_true, ite_false, Bool.false_eq_true, Bool.true_eq_false, Bool.true_and, Bool.and_true, Bool.false_and, Bool.and_false, Bool.not_true, Bool.not_false, false_implies, true_implies, forall_const, implies_true, bin_add, bin_sub, bin_mul, bin_fdiv, bin_mod, bin_adds, bin_addt, bin_addl, bin_mull, bin_mult, cmp_lt, cmp_le, cmp_gt, cmp_ge, cmp_eqi, cmp_nei, cmp_eqb, cmp_eqs, tru_bl, tru_int, tru_non, tru_tup, tru_lst, tru_frz, ix_tup, len_tup, tpl_tup, lsl_tup, slc_tup, seq_tup, ix_lst, len_lst, tpl_lst, lsl_lst, slc_lst, seq_lst, ix_frz, len_frz, tpl_frz, lsl_frz, slc_frz, seq_frz, len_str, blt_abs, blt_int, blt_intb, blt_max, blt_min, blt_str, blt_all, blt_any, blt_sum, opt_0, opt_1, rng_1, rng_2, atI_0, atI_1, atI_2, atI_3, atI_4, ixN_20, ixN_21, ty_bl_int, ty_bl_bool, ty_bl_str, ty_bl_tuple, ty_bl_list, ht_bl, nn_bl, mu_bl, ty_int_int, ty_int_bool, ty_int_str, ty_int_tuple, ty_int_list, ht_int, nn_int, mu_int, ty_str_int, ty_str_bool, ty_str_str, ty_str_tuple, ty_str_list, ht_str, nn_str, mu_str, ty_tup_int, ty_tup_bool, ty_tup_str, ty_tup_tuple, ty_tup_list, ht_tup, nn_tup, mu_tup, ty_lst_int, ty_lst_bool, ty_lst_str, ty_lst_tuple, ty_lst_list, ht_lst, nn_lst, mu_lst, ty_frz_int, ty_frz_bool, ty_frz_str, ty_frz_tuple, ty_frz_list, ht_frz, nn_frz, mu_frz, ty_non_int, ty_non_bool, ty_non_str, ty_non_tuple, ty_non_list, ht_non, nn_non, mu_non, List.map_cons, List.map_nil, exists_eq_left', decide_eq_true_eq, exists_eq_left, List.length_cons, List.length_nil, Nat.reduceAdd, Int.reduceEq, Int.reduceLT, Int.reduceLE, Int.reduceNeg, decide_true, decide_false, Cl.own.injEq, List.mem_cons, List.not_mem_nil, or_false, forall_eq_or_imp, forall_eq, Option.some.injEq, s_is_integer, fr_is_integer, p_is_integer, s_is_count, fr_is_count, p_is_count, s_check_count, fr_check_count, p_check_count, s_left_over, fr_left_over, p_left_over, s_left_by_turns, fr_left_by_turns, p_left_by_turns, s__law_state, fr__law_state, p__law_state, s__law_take, fr__law_take, p__law_take, s__law_is_whole, fr__law_is_whole, p__law_is_whole, s__law_same_v, fr__law_same_v, p__law_same_v, s__law_same_0, fr__law_same_0, p__law_same_0, s__law_told, fr__law_told, p__law_told, s__law_all_malformed, fr__law_all_malformed, p__law_all_malformed, s__law_great, fr__law_great, p__law_great, s__law_left, fr__law_left, p__law_left, s__law_turns, fr__law_turns, p__law_turns, s_law, fr_law, p_law, sn_expr, sn_asg, sn_asgl, sn_unp, sn_par, sn_app, sn_seti, sn_ife, sn_tr])
  ((try (dsimp only)); (try (rw [wN_eq])); try simp only [st_for, st_nil, st_ret, st_retn, st_brk, st_cnt, st_rmal, wRet, e_var, e_int, e_bl, e_non, e_str, e_fnv, e_gint, e_bin, e_neg, e_not, e_cmp, e_chn, e_isn, e_ntn, e_and, e_or, e_ite, e_tup, e_lst, e_call, e_cio, e_clv, e_blt, e_isi, e_ix, e_slc, e_rev, e_lrng, e_lc, e_met, wA, wP, wAnd, wOr, wT, wTA, wTO, wI, wCs, wHnd, pk, at_, put, putAll, putCs, wTgt, rng_1, rng_2, cellOf, frE, frF, frB, isOwn, isOwnL, Op.rd, Cl.datum, List.getElem?_cons_zero, List.getElem?_cons_succ, List.getElem?_nil, Option.getD_some, Option.getD_none, List.set_cons_zero, List.set_cons_succ, ne_eq, reduceCtorEq, not_false_eq_true, not_true_eq_false, true_and, and_true, if_true, if_false, ite_true, ite_false, Bool.false_eq_true, Bool.true_eq_false, Bool.true_and, Bool.and_true, Bool.false_and, Bool.and_false, Bool.not_true, Bool.not_false, false_implies, true_implies, forall_const, implies_true, bin_add, bin_sub, bin_mul, bin_fdiv, bin_mod, bin_adds, bin_addt, bin_addl, bin_mull, bin_mult, cmp_lt, cmp_le, cmp_gt, cmp_ge, cmp_eqi, cmp_nei, cmp_eqb, cmp_eqs, tru_bl, tru_int, tru_non, tru_tup, tru_lst, tru_frz, ix_tup, len_tup, tpl_tup, lsl_tup, slc_tup, seq_tup, ix_lst, len_lst, tpl_lst, lsl_lst, slc_lst, seq_lst, ix_frz, len_frz, tpl_frz, lsl_frz, slc_frz, seq_frz, len_str, blt_abs, blt_int, blt_intb, blt_max, blt_min, blt_str, blt_all, blt_any, blt_sum, opt_0, opt_1, rng_1, rng_2, atI_0, atI_1, atI_2, atI_3, atI_4, ixN_20, ixN_21, ty_bl_int, ty_bl_bool, ty_bl_str, ty_bl_tuple, ty_bl_list, ht_bl, nn_bl, mu_bl, ty_int_int, ty_int_bool, ty_int_str, ty_int_tuple, ty_int_list, ht_int, nn_int, mu_int, ty_str_int, ty_str_bool, ty_str_str, ty_str_tuple, ty_str_list, ht_str, nn_str, mu_str, ty_tup_int, ty_tup_bool, ty_tup_str, ty_tup_tuple, ty_tup_list, ht_tup, nn_tup, mu_tup, ty_lst_int, ty_lst_bool, ty_lst_str, ty_lst_tuple, ty_lst_list, ht_lst, nn_lst, mu_lst, ty_frz_int, ty_frz_bool, ty_frz_str, ty_frz_tuple, ty_frz_list, ht_frz, nn_frz, mu_frz, ty_non_int, ty_non_bool, ty_non_str, ty_non_tuple, ty_non_list, ht_non, nn_non, mu_non, List.map_cons, List.map_nil, exists_eq_left', decide_eq_true_eq, exists_eq_left, List.length_cons, List.length_nil, Nat.reduceAdd, Int.reduceEq, Int.reduceLT, Int.reduceLE, Int.reduceNeg, decide_true, decide_false, Cl.own.injEq, List.mem_cons, List.not_mem_nil, or_false, forall_eq_or_imp, forall_eq, Option.some.injEq, s_is_integer, fr_is_integer, p_is_integer, s_is_count, fr_is_count, p_is_count, s_check_count, fr_check_count, p_check_count, s_left_over, fr_left_over, p_left_over, s_left_by_turns, fr_left_by_turns, p_left_by_turns, s__law_state, fr__law_state, p__law_state, s__law_take, fr__law_take, p__law_take, s__law_is_whole, fr__law_is_whole, p__law_is_whole, s__law_same_v, fr__law_same_v, p__law_same_v, s__law_same_0, fr__law_same_0, p__law_same_0, s__law_told, fr__law_told, p__law_told, s__law_all_malformed, fr__law_all_malformed, p__law_all_malformed, s__law_great, fr__law_great, p__law_great, s__law_left, fr__law_left, p__law_left, s__law_turns, fr__law_turns, p__law_turns, s_law, fr_law, p_law, sn_expr, sn_asg, sn_asgl, sn_unp, sn_par, sn_app, sn_seti, sn_ife, sn_tr])
  refine lo_ok (by omega) (by unfold maxN; omega) (by omega) (by omega) ?_
  ((try (dsimp only)); (try (rw [wN_eq])); try simp only [st_for, st_nil, st_ret, st_retn, st_brk, st_cnt, st_rmal, wRet, e_var, e_int, e_bl, e_non, e_str, e_fnv, e_gint, e_bin, e_neg, e_not, e_cmp, e_chn, e_isn, e_ntn, e_and, e_or, e_ite, e_tup, e_lst, e_call, e_cio, e_clv, e_blt, e_isi, e_ix, e_slc, e_rev, e_lrng, e_lc, e_met, wA, wP, wAnd, wOr, wT, wTA, wTO, wI, wCs, wHnd, pk, at_, put, putAll, putCs, wTgt, rng_1, rng_2, cellOf, frE, frF, frB, isOwn, isOwnL, Op.rd, Cl.datum, List.getElem?_cons_zero, List.getElem?_cons_succ, List.getElem?_nil, Option.getD_some, Option.getD_none, List.set_cons_zero, List.set_cons_succ, ne_eq, reduceCtorEq, not_false_eq_true, not_true_eq_false, true_and, and_true, if_true, if_false, ite_true, ite_false, Bool.false_eq_true, Bool.true_eq_false, Bool.true_and, Bool.and_true, Bool.false_and, Bool.and_false, Bool.not_true, Bool.not_false, false_implies, true_implies, forall_const, implies_true, bin_add, bin_sub, bin_mul, bin_fdiv, bin_mod, bin_adds, bin_addt, bin_addl, bin_mull, bin_mult, cmp_lt, cmp_le, cmp_gt, cmp_ge, cmp_eqi, cmp_nei, cmp_eqb, cmp_eqs, tru_bl, tru_int, tru_non, tru_tup, tru_lst, tru_frz, ix_tup, len_tup, tpl_tup, lsl_tup, slc_tup, seq_tup, ix_lst, len_lst, tpl_lst, lsl_lst, slc_lst, seq_lst, ix_frz, len_frz, tpl_frz, lsl_frz, slc_frz, seq_frz, len_str, blt_abs, blt_int, blt_intb, blt_max, blt_min, blt_str, blt_all, blt_any, blt_sum, opt_0, opt_1, rng_1, rng_2, atI_0, atI_1, atI_2, atI_3, atI_4, ixN_20, ixN_21, ty_bl_int, ty_bl_bool, ty_bl_str, ty_bl_tuple, ty_bl_list, ht_bl, nn_bl, mu_bl, ty_int_int, ty_int_bool, ty_int_str, ty_int_tuple, ty_int_list, ht_int, nn_int, mu_int, ty_str_int, ty_str_bool, ty_str_str, ty_str_tuple, ty_str_list, ht_str, nn_str, mu_str, ty_tup_int, ty_tup_bool, ty_tup_str, ty_tup_tuple, ty_tup_list, ht_tup, nn_tup, mu_tup, ty_lst_int, ty_lst_bool, ty_lst_str, ty_lst_tuple, ty_lst_list, ht_lst, nn_lst, mu_lst, ty_frz_int, ty_frz_bool, ty_frz_str, ty_frz_tuple, ty_frz_list, ht_frz, nn_frz, mu_frz, ty_non_int, ty_non_bool, ty_non_str, ty_non_tuple, ty_non_list, ht_non, nn_non, mu_non, List.map_cons, List.map_nil, exists_eq_left', decide_eq_true_eq, exists_eq_left, List.length_cons, List.length_nil, Nat.reduceAdd, Int.reduceEq, Int.reduceLT, Int.reduceLE, Int.reduceNeg, decide_true, decide_false, Cl.own.injEq, List.mem_cons, List.not_mem_nil, or_false, forall_eq_or_imp, forall_eq, Option.some.injEq, s_is_integer, fr_is_integer, p_is_integer, s_is_count, fr_is_count, p_is_count, s_check_count, fr_check_count, p_check_count, s_left_over, fr_left_over, p_left_over, s_left_by_turns, fr_left_by_turns, p_left_by_turns, s__law_state, fr__law_state, p__law_state, s__law_take, fr__law_take, p__law_take, s__law_is_whole, fr__law_is_whole, p__law_is_whole, s__law_same_v, fr__law_same_v, p__law_same_v, s__law_same_0, fr__law_same_0, p__law_same_0, s__law_told, fr__law_told, p__law_told, s__law_all_malformed, fr__law_all_malformed, p__law_all_malformed, s__law_great, fr__law_great, p__law_great, s__law_left, fr__law_left, p__law_left, s__law_turns, fr__law_turns, p__law_turns, s_law, fr_law, p_law, sn_expr, sn_asg, sn_asgl, sn_unp, sn_par, sn_app, sn_seti, sn_ife, sn_tr])
  refine lt_ok (by omega) (by omega) (by omega) (by omega) ?_
  refine same_eq rfl ?_
  ((try (dsimp only)); (try (rw [wN_eq])); try simp only [st_for, st_nil, st_ret, st_retn, st_brk, st_cnt, st_rmal, wRet, e_var, e_int, e_bl, e_non, e_str, e_fnv, e_gint, e_bin, e_neg, e_not, e_cmp, e_chn, e_isn, e_ntn, e_and, e_or, e_ite, e_tup, e_lst, e_call, e_cio, e_clv, e_blt, e_isi, e_ix, e_slc, e_rev, e_lrng, e_lc, e_met, wA, wP, wAnd, wOr, wT, wTA, wTO, wI, wCs, wHnd, pk, at_, put, putAll, putCs, wTgt, rng_1, rng_2, cellOf, frE, frF, frB, isOwn, isOwnL, Op.rd, Cl.datum, List.getElem?_cons_zero, List.getElem?_cons_succ, List.getElem?_nil, Option.getD_some, Option.getD_none, List.set_cons_zero, List.set_cons_succ, ne_eq, reduceCtorEq, not_false_eq_true, not_true_eq_false, true_and, and_true, if_true, if_false, ite_true, ite_false, Bool.false_eq_true, Bool.true_eq_false, Bool.true_and, Bool.and_true, Bool.false_and, Bool.and_false, Bool.not_true, Bool.not_false, false_implies, true_implies, forall_const, implies_true, bin_add, bin_sub, bin_mul, bin_fdiv, bin_mod, bin_adds, bin_addt, bin_addl, bin_mull, bin_mult, cmp_lt, cmp_le, cmp_gt, cmp_ge, cmp_eqi, cmp_nei, cmp_eqb, cmp_eqs, tru_bl, tru_int, tru_non, tru_tup, tru_lst, tru_frz, ix_tup, len_tup, tpl_tup, lsl_tup, slc_tup, seq_tup, ix_lst, len_lst, tpl_lst, lsl_lst, slc_lst, seq_lst, ix_frz, len_frz, tpl_frz, lsl_frz, slc_frz, seq_frz, len_str, blt_abs, blt_int, blt_intb, blt_max, blt_min, blt_str, blt_all, blt_any, blt_sum, opt_0, opt_1, rng_1, rng_2, atI_0, atI_1, atI_2, atI_3, atI_4, ixN_20, ixN_21, ty_bl_int, ty_bl_bool, ty_bl_str, ty_bl_tuple, ty_bl_list, ht_bl, nn_bl, mu_bl, ty_int_int, ty_int_bool, ty_int_str, ty_int_tuple, ty_int_list, ht_int, nn_int, mu_int, ty_str_int, ty_str_bool, ty_str_str, ty_str_tuple, ty_str_list, ht_str, nn_str, mu_str, ty_tup_int, ty_tup_bool, ty_tup_str, ty_tup_tuple, ty_tup_list, ht_tup, nn_tup, mu_tup, ty_lst_int, ty_lst_bool, ty_lst_str, ty_lst_tuple, ty_lst_list, ht_lst, nn_lst, mu_lst, ty_frz_int, ty_frz_bool, ty_frz_str, ty_frz_tuple, ty_frz_list, ht_frz, nn_frz, mu_frz, ty_non_int, ty_non_bool, ty_non_str, ty_non_tuple, ty_non_list, ht_non, nn_non, mu_non, List.map_cons, List.map_nil, exists_eq_left', decide_eq_true_eq, exists_eq_left, List.length_cons, List.length_nil, Nat.reduceAdd, Int.reduceEq, Int.reduceLT, Int.reduceLE, Int.reduceNeg, decide_true, decide_false, Cl.own.injEq, List.mem_cons, List.not_mem_nil, or_false, forall_eq_or_imp, forall_eq, Option.some.injEq, s_is_integer, fr_is_integer, p_is_integer, s_is_count, fr_is_count, p_is_count, s_check_count, fr_check_count, p_check_count, s_left_over, fr_left_over, p_left_over, s_left_by_turns, fr_left_by_turns, p_left_by_turns, s__law_state, fr__law_state, p__law_state, s__law_take, fr__law_take, p__law_take, s__law_is_whole, fr__law_is_whole, p__law_is_whole, s__law_same_v, fr__law_same_v, p__law_same_v, s__law_same_0, fr__law_same_0, p__law_same_0, s__law_told, fr__law_told, p__law_told, s__law_all_malformed, fr__law_all_malformed, p__law_all_malformed, s__law_great, fr__law_great, p__law_great, s__law_left, fr__law_left, p__law_left, s__law_turns, fr__law_turns, p__law_turns, s_law, fr_law, p_law, sn_expr, sn_asg, sn_asgl, sn_unp, sn_par, sn_app, sn_seti, sn_ife, sn_tr])
  refine lo_ok (by omega) (by unfold maxN; omega) (by omega) (by omega) ?_
  ((try (dsimp only)); (try (rw [wN_eq])); try simp only [st_for, st_nil, st_ret, st_retn, st_brk, st_cnt, st_rmal, wRet, e_var, e_int, e_bl, e_non, e_str, e_fnv, e_gint, e_bin, e_neg, e_not, e_cmp, e_chn, e_isn, e_ntn, e_and, e_or, e_ite, e_tup, e_lst, e_call, e_cio, e_clv, e_blt, e_isi, e_ix, e_slc, e_rev, e_lrng, e_lc, e_met, wA, wP, wAnd, wOr, wT, wTA, wTO, wI, wCs, wHnd, pk, at_, put, putAll, putCs, wTgt, rng_1, rng_2, cellOf, frE, frF, frB, isOwn, isOwnL, Op.rd, Cl.datum, List.getElem?_cons_zero, List.getElem?_cons_succ, List.getElem?_nil, Option.getD_some, Option.getD_none, List.set_cons_zero, List.set_cons_succ, ne_eq, reduceCtorEq, not_false_eq_true, not_true_eq_false, true_and, and_true, if_true, if_false, ite_true, ite_false, Bool.false_eq_true, Bool.true_eq_false, Bool.true_and, Bool.and_true, Bool.false_and, Bool.and_false, Bool.not_true, Bool.not_false, false_implies, true_implies, forall_const, implies_true, bin_add, bin_sub, bin_mul, bin_fdiv, bin_mod, bin_adds, bin_addt, bin_addl, bin_mull, bin_mult, cmp_lt, cmp_le, cmp_gt, cmp_ge, cmp_eqi, cmp_nei, cmp_eqb, cmp_eqs, tru_bl, tru_int, tru_non, tru_tup, tru_lst, tru_frz, ix_tup, len_tup, tpl_tup, lsl_tup, slc_tup, seq_tup, ix_lst, len_lst, tpl_lst, lsl_lst, slc_lst, seq_lst, ix_frz, len_frz, tpl_frz, lsl_frz, slc_frz, seq_frz, len_str, blt_abs, blt_int, blt_intb, blt_max, blt_min, blt_str, blt_all, blt_any, blt_sum, opt_0, opt_1, rng_1, rng_2, atI_0, atI_1, atI_2, atI_3, atI_4, ixN_20, ixN_21, ty_bl_int, ty_bl_bool, ty_bl_str, ty_bl_tuple, ty_bl_list, ht_bl, nn_bl, mu_bl, ty_int_int, ty_int_bool, ty_int_str, ty_int_tuple, ty_int_list, ht_int, nn_int, mu_int, ty_str_int, ty_str_bool, ty_str_str, ty_str_tuple, ty_str_list, ht_str, nn_str, mu_str, ty_tup_int, ty_tup_bool, ty_tup_str, ty_tup_tuple, ty_tup_list, ht_tup, nn_tup, mu_tup, ty_lst_int, ty_lst_bool, ty_lst_str, ty_lst_tuple, ty_lst_list, ht_lst, nn_lst, mu_lst, ty_frz_int, ty_frz_bool, ty_frz_str, ty_frz_tuple, ty_frz_list, ht_frz, nn_frz, mu_frz, ty_non_int, ty_non_bool, ty_non_str, ty_non_tuple, ty_non_list, ht_non, nn_non, mu_non, List.map_cons, List.map_nil, exists_eq_left', decide_eq_true_eq, exists_eq_left, List.length_cons, List.length_nil, Nat.reduceAdd, Int.reduceEq, Int.reduceLT, Int.reduceLE, Int.reduceNeg, decide_true, decide_false, Cl.own.injEq, List.mem_cons, List.not_mem_nil, or_false, forall_eq_or_imp, forall_eq, Option.some.injEq, s_is_integer, fr_is_integer, p_is_integer, s_is_count, fr_is_count, p_is_count, s_check_count, fr_check_count, p_check_count, s_left_over, fr_left_over, p_left_over, s_left_by_turns, fr_left_by_turns, p_left_by_turns, s__law_state, fr__law_state, p__law_state, s__law_take, fr__law_take, p__law_take, s__law_is_whole, fr__law_is_whole, p__law_is_whole, s__law_same_v, fr__law_same_v, p__law_same_v, s__law_same_0, fr__law_same_0, p__law_same_0, s__law_told, fr__law_told, p__law_told, s__law_all_malformed, fr__law_all_malformed, p__law_all_malformed, s__law_great, fr__law_great, p__law_great, s__law_left, fr__law_left, p__law_left, s__law_turns, fr__law_turns, p__law_turns, s_law, fr_law, p_law, sn_expr, sn_asg, sn_asgl, sn_unp, sn_par, sn_app, sn_seti, sn_ife, sn_tr])
  refine ⟨1 + m, 2 + q, rfl, by omega, by omega, by omega, by omega, ?_⟩
  refine same_eq rfl ?_
  ((try (dsimp only)); (try (rw [wN_eq])); try simp only [st_for, st_nil, st_ret, st_retn, st_brk, st_cnt, st_rmal, wRet, e_var, e_int, e_bl, e_non, e_str, e_fnv, e_gint, e_bin, e_neg, e_not, e_cmp, e_chn, e_isn, e_ntn, e_and, e_or, e_ite, e_tup, e_lst, e_call, e_cio, e_clv, e_blt, e_isi, e_ix, e_slc, e_rev, e_lrng, e_lc, e_met, wA, wP, wAnd, wOr, wT, wTA, wTO, wI, wCs, wHnd, pk, at_, put, putAll, putCs, wTgt, rng_1, rng_2, cellOf, frE, frF, frB, isOwn, isOwnL, Op.rd, Cl.datum, List.getElem?_cons_zero, List.getElem?_cons_succ, List.getElem?_nil, Option.getD_some, Option.getD_none, List.set_cons_zero, List.set_cons_succ, ne_eq, reduceCtorEq, not_false_eq_true, not_true_eq_false, true_and, and_true, if_true, if_false, ite_true, ite_false, Bool.false_eq_true, Bool.true_eq_false, Bool.true_and, Bool.and_true, Bool.false_and, Bool.and_false, Bool.not_true, Bool.not_false, false_implies, true_implies, forall_const, implies_true, bin_add, bin_sub, bin_mul, bin_fdiv, bin_mod, bin_adds, bin_addt, bin_addl, bin_mull, bin_mult, cmp_lt, cmp_le, cmp_gt, cmp_ge, cmp_eqi, cmp_nei, cmp_eqb, cmp_eqs, tru_bl, tru_int, tru_non, tru_tup, tru_lst, tru_frz, ix_tup, len_tup, tpl_tup, lsl_tup, slc_tup, seq_tup, ix_lst, len_lst, tpl_lst, lsl_lst, slc_lst, seq_lst, ix_frz, len_frz, tpl_frz, lsl_frz, slc_frz, seq_frz, len_str, blt_abs, blt_int, blt_intb, blt_max, blt_min, blt_str, blt_all, blt_any, blt_sum, opt_0, opt_1, rng_1, rng_2, atI_0, atI_1, atI_2, atI_3, atI_4, ixN_20, ixN_21, ty_bl_int, ty_bl_bool, ty_bl_str, ty_bl_tuple, ty_bl_list, ht_bl, nn_bl, mu_bl, ty_int_int, ty_int_bool, ty_int_str, ty_int_tuple, ty_int_list, ht_int, nn_int, mu_int, ty_str_int, ty_str_bool, ty_str_str, ty_str_tuple, ty_str_list, ht_str, nn_str, mu_str, ty_tup_int, ty_tup_bool, ty_tup_str, ty_tup_tuple, ty_tup_list, ht_tup, nn_tup, mu_tup, ty_lst_int, ty_lst_bool, ty_lst_str, ty_lst_tuple, ty_lst_list, ht_lst, nn_lst, mu_lst, ty_frz_int, ty_frz_bool, ty_frz_str, ty_frz_tuple, ty_frz_list, ht_frz, nn_frz, mu_frz, ty_non_int, ty_non_bool, ty_non_str, ty_non_tuple, ty_non_list, ht_non, nn_non, mu_non, List.map_cons, List.map_nil, exists_eq_left', decide_eq_true_eq, exists_eq_left, List.length_cons, List.length_nil, Nat.reduceAdd, Int.reduceEq, Int.reduceLT, Int.reduceLE, Int.reduceNeg, decide_true, decide_false, Cl.own.injEq, List.mem_cons, List.not_mem_nil, or_false, forall_eq_or_imp, forall_eq, Option.some.injEq, s_is_integer, fr_is_integer, p_is_integer, s_is_count, fr_is_count, p_is_count, s_check_count, fr_check_count, p_check_count, s_left_over, fr_left_over, p_left_over, s_left_by_turns, fr_left_by_turns, p_left_by_turns, s__law_state, fr__law_state, p__law_state, s__law_take, fr__law_take, p__law_take, s__law_is_whole, fr__law_is_whole, p__law_is_whole, s__law_same_v, fr__law_same_v, p__law_same_v, s__law_same_0, fr__law_same_0, p__law_same_0, s__law_told, fr__law_told, p__law_told, s__law_all_malformed, fr__law_all_malformed, p__law_all_malformed, s__law_great, fr__law_great, p__law_great, s__law_left, fr__law_left, p__law_left, s__law_turns, fr__law_turns, p__law_turns, s_law, fr_law, p_law, sn_expr, sn_asg, sn_asgl, sn_unp, sn_par, sn_app, sn_seti, sn_ife, sn_tr])
  ((try (dsimp only)); (try (rw [wN_eq])); try simp only [st_for, st_nil, st_ret, st_retn, st_brk, st_cnt, st_rmal, wRet, e_var, e_int, e_bl, e_non, e_str, e_fnv, e_gint, e_bin, e_neg, e_not, e_cmp, e_chn, e_isn, e_ntn, e_and, e_or, e_ite, e_tup, e_lst, e_call, e_cio, e_clv, e_blt, e_isi, e_ix, e_slc, e_rev, e_lrng, e_lc, e_met, wA, wP, wAnd, wOr, wT, wTA, wTO, wI, wCs, wHnd, pk, at_, put, putAll, putCs, wTgt, rng_1, rng_2, cellOf, frE, frF, frB, isOwn, isOwnL, Op.rd, Cl.datum, List.getElem?_cons_zero, List.getElem?_cons_succ, List.getElem?_nil, Option.getD_some, Option.getD_none, List.set_cons_zero, List.set_cons_succ, ne_eq, reduceCtorEq, not_false_eq_true, not_true_eq_false, true_and, and_true, if_true, if_false, ite_true, ite_false, Bool.false_eq_true, Bool.true_eq_false, Bool.true_and, Bool.and_true, Bool.false_and, Bool.and_false, Bool.not_true, Bool.not_false, false_implies, true_implies, forall_const, implies_true, bin_add, bin_sub, bin_mul, bin_fdiv, bin_mod, bin_adds, bin_addt, bin_addl, bin_mull, bin_mult, cmp_lt, cmp_le, cmp_gt, cmp_ge, cmp_eqi, cmp_nei, cmp_eqb, cmp_eqs, tru_bl, tru_int, tru_non, tru_tup, tru_lst, tru_frz, ix_tup, len_tup, tpl_tup, lsl_tup, slc_tup, seq_tup, ix_lst, len_lst, tpl_lst, lsl_lst, slc_lst, seq_lst, ix_frz, len_frz, tpl_frz, lsl_frz, slc_frz, seq_frz, len_str, blt_abs, blt_int, blt_intb, blt_max, blt_min, blt_str, blt_all, blt_any, blt_sum, opt_0, opt_1, rng_1, rng_2, atI_0, atI_1, atI_2, atI_3, atI_4, ixN_20, ixN_21, ty_bl_int, ty_bl_bool, ty_bl_str, ty_bl_tuple, ty_bl_list, ht_bl, nn_bl, mu_bl, ty_int_int, ty_int_bool, ty_int_str, ty_int_tuple, ty_int_list, ht_int, nn_int, mu_int, ty_str_int, ty_str_bool, ty_str_str, ty_str_tuple, ty_str_list, ht_str, nn_str, mu_str, ty_tup_int, ty_tup_bool, ty_tup_str, ty_tup_tuple, ty_tup_list, ht_tup, nn_tup, mu_tup, ty_lst_int, ty_lst_bool, ty_lst_str, ty_lst_tuple, ty_lst_list, ht_lst, nn_lst, mu_lst, ty_frz_int, ty_frz_bool, ty_frz_str, ty_frz_tuple, ty_frz_list, ht_frz, nn_frz, mu_frz, ty_non_int, ty_non_bool, ty_non_str, ty_non_tuple, ty_non_list, ht_non, nn_non, mu_non, List.map_cons, List.map_nil, exists_eq_left', decide_eq_true_eq, exists_eq_left, List.length_cons, List.length_nil, Nat.reduceAdd, Int.reduceEq, Int.reduceLT, Int.reduceLE, Int.reduceNeg, decide_true, decide_false, Cl.own.injEq, List.mem_cons, List.not_mem_nil, or_false, forall_eq_or_imp, forall_eq, Option.some.injEq, s_is_integer, fr_is_integer, p_is_integer, s_is_count, fr_is_count, p_is_count, s_check_count, fr_check_count, p_check_count, s_left_over, fr_left_over, p_left_over, s_left_by_turns, fr_left_by_turns, p_left_by_turns, s__law_state, fr__law_state, p__law_state, s__law_take, fr__law_take, p__law_take, s__law_is_whole, fr__law_is_whole, p__law_is_whole, s__law_same_v, fr__law_same_v, p__law_same_v, s__law_same_0, fr__law_same_0, p__law_same_0, s__law_told, fr__law_told, p__law_told, s__law_all_malformed, fr__law_all_malformed, p__law_all_malformed, s__law_great, fr__law_great, p__law_great, s__law_left, fr__law_left, p__law_left, s__law_turns, fr__law_turns, p__law_turns, s_law, fr_law, p_law, sn_expr, sn_asg, sn_asgl, sn_unp, sn_par, sn_app, sn_seti, sn_ife, sn_tr])
  refine ⟨a, b, rfl, fun g a b g1 g2 => ?_⟩
  ((try (dsimp only)); (try (rw [wN_eq])); try simp only [st_for, st_nil, st_ret, st_retn, st_brk, st_cnt, st_rmal, wRet, e_var, e_int, e_bl, e_non, e_str, e_fnv, e_gint, e_bin, e_neg, e_not, e_cmp, e_chn, e_isn, e_ntn, e_and, e_or, e_ite, e_tup, e_lst, e_call, e_cio, e_clv, e_blt, e_isi, e_ix, e_slc, e_rev, e_lrng, e_lc, e_met, wA, wP, wAnd, wOr, wT, wTA, wTO, wI, wCs, wHnd, pk, at_, put, putAll, putCs, wTgt, rng_1, rng_2, cellOf, frE, frF, frB, isOwn, isOwnL, Op.rd, Cl.datum, List.getElem?_cons_zero, List.getElem?_cons_succ, List.getElem?_nil, Option.getD_some, Option.getD_none, List.set_cons_zero, List.set_cons_succ, ne_eq, reduceCtorEq, not_false_eq_true, not_true_eq_false, true_and, and_true, if_true, if_false, ite_true, ite_false, Bool.false_eq_true, Bool.true_eq_false, Bool.true_and, Bool.and_true, Bool.false_and, Bool.and_false, Bool.not_true, Bool.not_false, false_implies, true_implies, forall_const, implies_true, bin_add, bin_sub, bin_mul, bin_fdiv, bin_mod, bin_adds, bin_addt, bin_addl, bin_mull, bin_mult, cmp_lt, cmp_le, cmp_gt, cmp_ge, cmp_eqi, cmp_nei, cmp_eqb, cmp_eqs, tru_bl, tru_int, tru_non, tru_tup, tru_lst, tru_frz, ix_tup, len_tup, tpl_tup, lsl_tup, slc_tup, seq_tup, ix_lst, len_lst, tpl_lst, lsl_lst, slc_lst, seq_lst, ix_frz, len_frz, tpl_frz, lsl_frz, slc_frz, seq_frz, len_str, blt_abs, blt_int, blt_intb, blt_max, blt_min, blt_str, blt_all, blt_any, blt_sum, opt_0, opt_1, rng_1, rng_2, atI_0, atI_1, atI_2, atI_3, atI_4, ixN_20, ixN_21, ty_bl_int, ty_bl_bool, ty_bl_str, ty_bl_tuple, ty_bl_list, ht_bl, nn_bl, mu_bl, ty_int_int, ty_int_bool, ty_int_str, ty_int_tuple, ty_int_list, ht_int, nn_int, mu_int, ty_str_int, ty_str_bool, ty_str_str, ty_str_tuple, ty_str_list, ht_str, nn_str, mu_str, ty_tup_int, ty_tup_bool, ty_tup_str, ty_tup_tuple, ty_tup_list, ht_tup, nn_tup, mu_tup, ty_lst_int, ty_lst_bool, ty_lst_str, ty_lst_tuple, ty_lst_list, ht_lst, nn_lst, mu_lst, ty_frz_int, ty_frz_bool, ty_frz_str, ty_frz_tuple, ty_frz_list, ht_frz, nn_frz, mu_frz, ty_non_int, ty_non_bool, ty_non_str, ty_non_tuple, ty_non_list, ht_non, nn_non, mu_non, List.map_cons, List.map_nil, exists_eq_left', decide_eq_true_eq, exists_eq_left, List.length_cons, List.length_nil, Nat.reduceAdd, Int.reduceEq, Int.reduceLT, Int.reduceLE, Int.reduceNeg, decide_true, decide_false, Cl.own.injEq, List.mem_cons, List.not_mem_nil, or_false, forall_eq_or_imp, forall_eq, Option.some.injEq, s_is_integer, fr_is_integer, p_is_integer, s_is_count, fr_is_count, p_is_count, s_check_count, fr_check_count, p_check_count, s_left_over, fr_left_over, p_left_over, s_left_by_turns, fr_left_by_turns, p_left_by_turns, s__law_state, fr__law_state, p__law_state, s__law_take, fr__law_take, p__law_take, s__law_is_whole, fr__law_is_whole, p__law_is_whole, s__law_same_v, fr__law_same_v, p__law_same_v, s__law_same_0, fr__law_same_0, p__law_same_0, s__law_told, fr__law_told, p__law_told, s__law_all_malformed, fr__law_all_malformed, p__law_all_malformed, s__law_great, fr__law_great, p__law_great, s__law_left, fr__law_left, p__law_left, s__law_turns, fr__law_turns, p__law_turns, s_law, fr_law, p_law, sn_expr, sn_asg, sn_asgl, sn_unp, sn_par, sn_app, sn_seti, sn_ife, sn_tr])
  ((try (dsimp only)); (try (rw [wN_eq])); try simp only [st_for, st_nil, st_ret, st_retn, st_brk, st_cnt, st_rmal, wRet, e_var, e_int, e_bl, e_non, e_str, e_fnv, e_gint, e_bin, e_neg, e_not, e_cmp, e_chn, e_isn, e_ntn, e_and, e_or, e_ite, e_tup, e_lst, e_call, e_cio, e_clv, e_blt, e_isi, e_ix, e_slc, e_rev, e_lrng, e_lc, e_met, wA, wP, wAnd, wOr, wT, wTA, wTO, wI, wCs, wHnd, pk, at_, put, putAll, putCs, wTgt, rng_1, rng_2, cellOf, frE, frF, frB, isOwn, isOwnL, Op.rd, Cl.datum, List.getElem?_cons_zero, List.getElem?_cons_succ, List.getElem?_nil, Option.getD_some, Option.getD_none, List.set_cons_zero, List.set_cons_succ, ne_eq, reduceCtorEq, not_false_eq_true, not_true_eq_false, true_and, and_true, if_true, if_false, ite_true, ite_false, Bool.false_eq_true, Bool.true_eq_false, Bool.true_and, Bool.and_true, Bool.false_and, Bool.and_false, Bool.not_true, Bool.not_false, false_implies, true_implies, forall_const, implies_true, bin_add, bin_sub, bin_mul, bin_fdiv, bin_mod, bin_adds, bin_addt, bin_addl, bin_mull, bin_mult, cmp_lt, cmp_le, cmp_gt, cmp_ge, cmp_eqi, cmp_nei, cmp_eqb, cmp_eqs, tru_bl, tru_int, tru_non, tru_tup, tru_lst, tru_frz, ix_tup, len_tup, tpl_tup, lsl_tup, slc_tup, seq_tup, ix_lst, len_lst, tpl_lst, lsl_lst, slc_lst, seq_lst, ix_frz, len_frz, tpl_frz, lsl_frz, slc_frz, seq_frz, len_str, blt_abs, blt_int, blt_intb, blt_max, blt_min, blt_str, blt_all, blt_any, blt_sum, opt_0, opt_1, rng_1, rng_2, atI_0, atI_1, atI_2, atI_3, atI_4, ixN_20, ixN_21, ty_bl_int, ty_bl_bool, ty_bl_str, ty_bl_tuple, ty_bl_list, ht_bl, nn_bl, mu_bl, ty_int_int, ty_int_bool, ty_int_str, ty_int_tuple, ty_int_list, ht_int, nn_int, mu_int, ty_str_int, ty_str_bool, ty_str_str, ty_str_tuple, ty_str_list, ht_str, nn_str, mu_str, ty_tup_int, ty_tup_bool, ty_tup_str, ty_tup_tuple, ty_tup_list, ht_tup, nn_tup, mu_tup, ty_lst_int, ty_lst_bool, ty_lst_str, ty_lst_tuple, ty_lst_list, ht_lst, nn_lst, mu_lst, ty_frz_int, ty_frz_bool, ty_frz_str, ty_frz_tuple, ty_frz_list, ht_frz, nn_frz, mu_frz, ty_non_int, ty_non_bool, ty_non_str, ty_non_tuple, ty_non_list, ht_non, nn_non, mu_non, List.map_cons, List.map_nil, exists_eq_left', decide_eq_true_eq, exists_eq_left, List.length_cons, List.length_nil, Nat.reduceAdd, Int.reduceEq, Int.reduceLT, Int.reduceLE, Int.reduceNeg, decide_true, decide_false, Cl.own.injEq, List.mem_cons, List.not_mem_nil, or_false, forall_eq_or_imp, forall_eq, Option.some.injEq, s_is_integer, fr_is_integer, p_is_integer, s_is_count, fr_is_count, p_is_count, s_check_count, fr_check_count, p_check_count, s_left_over, fr_left_over, p_left_over, s_left_by_turns, fr_left_by_turns, p_left_by_turns, s__law_state, fr__law_state, p__law_state, s__law_take, fr__law_take, p__law_take, s__law_is_whole, fr__law_is_whole, p__law_is_whole, s__law_same_v, fr__law_same_v, p__law_same_v, s__law_same_0, fr__law_same_0, p__law_same_0, s__law_told, fr__law_told, p__law_told, s__law_all_malformed, fr__law_all_malformed, p__law_all_malformed, s__law_great, fr__law_great, p__law_great, s__law_left, fr__law_left, p__law_left, s__law_turns, fr__law_turns, p__law_turns, s_law, fr_law, p_law, sn_expr, sn_asg, sn_asgl, sn_unp, sn_par, sn_app, sn_seti, sn_ife, sn_tr])
  rw [wN_eq]
  obtain ⟨G, hG⟩ : ∃ G : Nat, 1 + g = ((G + 1 : Nat) : Int) := ⟨g.toNat, by omega⟩
  rw [hG]
  refine whl_rule (fun f env => ∃ i : Nat, 1 ≤ dk 2 i ∧ (∀ j ≤ i, dk 2 j ≤ ((G + 1 : Nat) : Int)) ∧ f = (((G + 1 : Nat) : Int) - dk 2 i).toNat ∧ env = [.val (.frz (ns.map D.int)), .own (.lst [.int a, .int b]), .val (.int (1 + n)), .val (.int (2 + q)), .val (.int (pl (2 + q) ((1 + n).toNat - 1) + 1)), .val (.int (1 + m)), .val (.int ((G + 1 : Nat) : Int)), .val (.int (dk 2 i)), .emp, .emp, .emp, .emp])
    ⟨_, _, .refl _ _, 0, by simp [dk], fun j hj => ?_, rfl, rfl⟩ ?_
  · have : j = 0 := by omega
    subst this
    show (1 : Int) ≤ _
    omega
  rintro f env ⟨i, i1, i2, rfl, rfl⟩
  simp only [st_for, st_nil, st_ret, st_retn, st_brk, st_cnt, st_rmal, wRet, e_var, e_int, e_bl, e_non, e_str, e_fnv, e_gint, e_bin, e_neg, e_not, e_cmp, e_chn, e_isn, e_ntn, e_and, e_or, e_ite, e_tup, e_lst, e_call, e_cio, e_clv, e_blt, e_isi, e_ix, e_slc, e_rev, e_lrng, e_lc, e_met, wA, wP, wAnd, wOr, wT, wTA, wTO, wI, wCs, wHnd, pk, at_, put, putAll, putCs, wTgt, rng_1, rng_2, cellOf, frE, frF, frB, isOwn, isOwnL, Op.rd, Cl.datum, List.getElem?_cons_zero, List.getElem?_cons_succ, List.getElem?_nil, Option.getD_some, Option.getD_none, List.set_cons_zero, List.set_cons_succ, ne_eq, reduceCtorEq, not_false_eq_true, not_true_eq_false, true_and, and_true, if_true, if_false, ite_true, ite_false, Bool.false_eq_true, Bool.true_eq_false, Bool.true_and, Bool.and_true, Bool.false_and, Bool.and_false, Bool.not_true, Bool.not_false, false_implies, true_implies, forall_const, implies_true, bin_add, bin_sub, bin_mul, bin_fdiv, bin_mod, bin_adds, bin_addt, bin_addl, bin_mull, bin_mult, cmp_lt, cmp_le, cmp_gt, cmp_ge, cmp_eqi, cmp_nei, cmp_eqb, cmp_eqs, tru_bl, tru_int, tru_non, tru_tup, tru_lst, tru_frz, ix_tup, len_tup, tpl_tup, lsl_tup, slc_tup, seq_tup, ix_lst, len_lst, tpl_lst, lsl_lst, slc_lst, seq_lst, ix_frz, len_frz, tpl_frz, lsl_frz, slc_frz, seq_frz, len_str, blt_abs, blt_int, blt_intb, blt_max, blt_min, blt_str, blt_all, blt_any, blt_sum, opt_0, opt_1, rng_1, rng_2, atI_0, atI_1, atI_2, atI_3, atI_4, ixN_20, ixN_21, ty_bl_int, ty_bl_bool, ty_bl_str, ty_bl_tuple, ty_bl_list, ht_bl, nn_bl, mu_bl, ty_int_int, ty_int_bool, ty_int_str, ty_int_tuple, ty_int_list, ht_int, nn_int, mu_int, ty_str_int, ty_str_bool, ty_str_str, ty_str_tuple, ty_str_list, ht_str, nn_str, mu_str, ty_tup_int, ty_tup_bool, ty_tup_str, ty_tup_tuple, ty_tup_list, ht_tup, nn_tup, mu_tup, ty_lst_int, ty_lst_bool, ty_lst_str, ty_lst_tuple, ty_lst_list, ht_lst, nn_lst, mu_lst, ty_frz_int, ty_frz_bool, ty_frz_str, ty_frz_tuple, ty_frz_list, ht_frz, nn_frz, mu_frz, ty_non_int, ty_non_bool, ty_non_str, ty_non_tuple, ty_non_list, ht_non, nn_non, mu_non, List.map_cons, List.map_nil, exists_eq_left', decide_eq_true_eq, exists_eq_left, List.length_cons, List.length_nil, Nat.reduceAdd, Int.reduceEq, Int.reduceLT, Int.reduceLE, Int.reduceNeg, decide_true, decide_false, Cl.own.injEq, List.mem_cons, List.not_mem_nil, or_false, forall_eq_or_imp, forall_eq, Option.some.injEq, s_is_integer, fr_is_integer, p_is_integer, s_is_count, fr_is_count, p_is_count, s_check_count, fr_check_count, p_check_count, s_left_over, fr_left_over, p_left_over, s_left_by_turns, fr_left_by_turns, p_left_by_turns, s__law_state, fr__law_state, p__law_state, s__law_take, fr__law_take, p__law_take, s__law_is_whole, fr__law_is_whole, p__law_is_whole, s__law_same_v, fr__law_same_v, p__law_same_v, s__law_same_0, fr__law_same_0, p__law_same_0, s__law_told, fr__law_told, p__law_told, s__law_all_malformed, fr__law_all_malformed, p__law_all_malformed, s__law_great, fr__law_great, p__law_great, s__law_left, fr__law_left, p__law_left, s__law_turns, fr__law_turns, p__law_turns, s_law, fr_law, p_law, sn_expr, sn_asg, sn_asgl, sn_unp, sn_par, sn_app, sn_seti, sn_ife, sn_tr]
  refine ⟨mulL (by omega) (by omega), ?_⟩
  split
  · rename_i hc
    refine ⟨mulL (by omega) (by omega), _, _, .refl _ _, ?_, i + 1, ?_, ?_, rfl, ?_⟩
    · rw [dk_two]; omega
    · rw [dk_two]; omega
    · intro j hj
      by_cases z : j = i + 1
      · subst z; rw [dk_two]; exact hc
      · exact i2 j (by omega)
    · rw [dk_two]
  rename_i hc
  have hGn : ((G + 1 : Nat) : Int).toNat - 1 = G := by omega
  refine lo_ok (by omega) (by unfold maxN; omega) (by omega) (by omega) ?_
  rw [hGn]
  ((try (dsimp only)); (try (rw [wN_eq])); try simp only [st_for, st_nil, st_ret, st_retn, st_brk, st_cnt, st_rmal, wRet, e_var, e_int, e_bl, e_non, e_str, e_fnv, e_gint, e_bin, e_neg, e_not, e_cmp, e_chn, e_isn, e_ntn, e_and, e_or, e_ite, e_tup, e_lst, e_call, e_cio, e_clv, e_blt, e_isi, e_ix, e_slc, e_rev, e_lrng, e_lc, e_met, wA, wP, wAnd, wOr, wT, wTA, wTO, wI, wCs, wHnd, pk, at_, put, putAll, putCs, wTgt, rng_1, rng_2, cellOf, frE, frF, frB, isOwn, isOwnL, Op.rd, Cl.datum, List.getElem?_cons_zero, List.getElem?_cons_succ, List.getElem?_nil, Option.getD_some, Option.getD_none, List.set_cons_zero, List.set_cons_succ, ne_eq, reduceCtorEq, not_false_eq_true, not_true_eq_false, true_and, and_true, if_true, if_false, ite_true, ite_false, Bool.false_eq_true, Bool.true_eq_false, Bool.true_and, Bool.and_true, Bool.false_and, Bool.and_false, Bool.not_true, Bool.not_false, false_implies, true_implies, forall_const, implies_true, bin_add, bin_sub, bin_mul, bin_fdiv, bin_mod, bin_adds, bin_addt, bin_addl, bin_mull, bin_mult, cmp_lt, cmp_le, cmp_gt, cmp_ge, cmp_eqi, cmp_nei, cmp_eqb, cmp_eqs, tru_bl, tru_int, tru_non, tru_tup, tru_lst, tru_frz, ix_tup, len_tup, tpl_tup, lsl_tup, slc_tup, seq_tup, ix_lst, len_lst, tpl_lst, lsl_lst, slc_lst, seq_lst, ix_frz, len_frz, tpl_frz, lsl_frz, slc_frz, seq_frz, len_str, blt_abs, blt_int, blt_intb, blt_max, blt_min, blt_str, blt_all, blt_any, blt_sum, opt_0, opt_1, rng_1, rng_2, atI_0, atI_1, atI_2, atI_3, atI_4, ixN_20, ixN_21, ty_bl_int, ty_bl_bool, ty_bl_str, ty_bl_tuple, ty_bl_list, ht_bl, nn_bl, mu_bl, ty_int_int, ty_int_bool, ty_int_str, ty_int_tuple, ty_int_list, ht_int, nn_int, mu_int, ty_str_int, ty_str_bool, ty_str_str, ty_str_tuple, ty_str_list, ht_str, nn_str, mu_str, ty_tup_int, ty_tup_bool, ty_tup_str, ty_tup_tuple, ty_tup_list, ht_tup, nn_tup, mu_tup, ty_lst_int, ty_lst_bool, ty_lst_str, ty_lst_tuple, ty_lst_list, ht_lst, nn_lst, mu_lst, ty_frz_int, ty_frz_bool, ty_frz_str, ty_frz_tuple, ty_frz_list, ht_frz, nn_frz, mu_frz, ty_non_int, ty_non_bool, ty_non_str, ty_non_tuple, ty_non_list, ht_non, nn_non, mu_non, List.map_cons, List.map_nil, exists_eq_left', decide_eq_true_eq, exists_eq_left, List.length_cons, List.length_nil, Nat.reduceAdd, Int.reduceEq, Int.reduceLT, Int.reduceLE, Int.reduceNeg, decide_true, decide_false, Cl.own.injEq, List.mem_cons, List.not_mem_nil, or_false, forall_eq_or_imp, forall_eq, Option.some.injEq, s_is_integer, fr_is_integer, p_is_integer, s_is_count, fr_is_count, p_is_count, s_check_count, fr_check_count, p_check_count, s_left_over, fr_left_over, p_left_over, s_left_by_turns, fr_left_by_turns, p_left_by_turns, s__law_state, fr__law_state, p__law_state, s__law_take, fr__law_take, p__law_take, s__law_is_whole, fr__law_is_whole, p__law_is_whole, s__law_same_v, fr__law_same_v, p__law_same_v, s__law_same_0, fr__law_same_0, p__law_same_0, s__law_told, fr__law_told, p__law_told, s__law_all_malformed, fr__law_all_malformed, p__law_all_malformed, s__law_great, fr__law_great, p__law_great, s__law_left, fr__law_left, p__law_left, s__law_turns, fr__law_turns, p__law_turns, s_law, fr_law, p_law, sn_expr, sn_asg, sn_asgl, sn_unp, sn_par, sn_app, sn_seti, sn_ife, sn_tr])
  refine ⟨mulL (by omega) (by omega), ?_⟩
  refine same_eq (pl_two i2 (by omega)) ?_
  ((try (dsimp only)); (try (rw [wN_eq])); try simp only [st_for, st_nil, st_ret, st_retn, st_brk, st_cnt, st_rmal, wRet, e_var, e_int, e_bl, e_non, e_str, e_fnv, e_gint, e_bin, e_neg, e_not, e_cmp, e_chn, e_isn, e_ntn, e_and, e_or, e_ite, e_tup, e_lst, e_call, e_cio, e_clv, e_blt, e_isi, e_ix, e_slc, e_rev, e_lrng, e_lc, e_met, wA, wP, wAnd, wOr, wT, wTA, wTO, wI, wCs, wHnd, pk, at_, put, putAll, putCs, wTgt, rng_1, rng_2, cellOf, frE, frF, frB, isOwn, isOwnL, Op.rd, Cl.datum, List.getElem?_cons_zero, List.getElem?_cons_succ, List.getElem?_nil, Option.getD_some, Option.getD_none, List.set_cons_zero, List.set_cons_succ, ne_eq, reduceCtorEq, not_false_eq_true, not_true_eq_false, true_and, and_true, if_true, if_false, ite_true, ite_false, Bool.false_eq_true, Bool.true_eq_false, Bool.true_and, Bool.and_true, Bool.false_and, Bool.and_false, Bool.not_true, Bool.not_false, false_implies, true_implies, forall_const, implies_true, bin_add, bin_sub, bin_mul, bin_fdiv, bin_mod, bin_adds, bin_addt, bin_addl, bin_mull, bin_mult, cmp_lt, cmp_le, cmp_gt, cmp_ge, cmp_eqi, cmp_nei, cmp_eqb, cmp_eqs, tru_bl, tru_int, tru_non, tru_tup, tru_lst, tru_frz, ix_tup, len_tup, tpl_tup, lsl_tup, slc_tup, seq_tup, ix_lst, len_lst, tpl_lst, lsl_lst, slc_lst, seq_lst, ix_frz, len_frz, tpl_frz, lsl_frz, slc_frz, seq_frz, len_str, blt_abs, blt_int, blt_intb, blt_max, blt_min, blt_str, blt_all, blt_any, blt_sum, opt_0, opt_1, rng_1, rng_2, atI_0, atI_1, atI_2, atI_3, atI_4, ixN_20, ixN_21, ty_bl_int, ty_bl_bool, ty_bl_str, ty_bl_tuple, ty_bl_list, ht_bl, nn_bl, mu_bl, ty_int_int, ty_int_bool, ty_int_str, ty_int_tuple, ty_int_list, ht_int, nn_int, mu_int, ty_str_int, ty_str_bool, ty_str_str, ty_str_tuple, ty_str_list, ht_str, nn_str, mu_str, ty_tup_int, ty_tup_bool, ty_tup_str, ty_tup_tuple, ty_tup_list, ht_tup, nn_tup, mu_tup, ty_lst_int, ty_lst_bool, ty_lst_str, ty_lst_tuple, ty_lst_list, ht_lst, nn_lst, mu_lst, ty_frz_int, ty_frz_bool, ty_frz_str, ty_frz_tuple, ty_frz_list, ht_frz, nn_frz, mu_frz, ty_non_int, ty_non_bool, ty_non_str, ty_non_tuple, ty_non_list, ht_non, nn_non, mu_non, List.map_cons, List.map_nil, exists_eq_left', decide_eq_true_eq, exists_eq_left, List.length_cons, List.length_nil, Nat.reduceAdd, Int.reduceEq, Int.reduceLT, Int.reduceLE, Int.reduceNeg, decide_true, decide_false, Cl.own.injEq, List.mem_cons, List.not_mem_nil, or_false, forall_eq_or_imp, forall_eq, Option.some.injEq, s_is_integer, fr_is_integer, p_is_integer, s_is_count, fr_is_count, p_is_count, s_check_count, fr_check_count, p_check_count, s_left_over, fr_left_over, p_left_over, s_left_by_turns, fr_left_by_turns, p_left_by_turns, s__law_state, fr__law_state, p__law_state, s__law_take, fr__law_take, p__law_take, s__law_is_whole, fr__law_is_whole, p__law_is_whole, s__law_same_v, fr__law_same_v, p__law_same_v, s__law_same_0, fr__law_same_0, p__law_same_0, s__law_told, fr__law_told, p__law_told, s__law_all_malformed, fr__law_all_malformed, p__law_all_malformed, s__law_great, fr__law_great, p__law_great, s__law_left, fr__law_left, p__law_left, s__law_turns, fr__law_turns, p__law_turns, s_law, fr_law, p_law, sn_expr, sn_asg, sn_asgl, sn_unp, sn_par, sn_app, sn_seti, sn_ife, sn_tr])
  ((try (dsimp only)); (try (rw [wN_eq])); try simp only [st_for, st_nil, st_ret, st_retn, st_brk, st_cnt, st_rmal, wRet, e_var, e_int, e_bl, e_non, e_str, e_fnv, e_gint, e_bin, e_neg, e_not, e_cmp, e_chn, e_isn, e_ntn, e_and, e_or, e_ite, e_tup, e_lst, e_call, e_cio, e_clv, e_blt, e_isi, e_ix, e_slc, e_rev, e_lrng, e_lc, e_met, wA, wP, wAnd, wOr, wT, wTA, wTO, wI, wCs, wHnd, pk, at_, put, putAll, putCs, wTgt, rng_1, rng_2, cellOf, frE, frF, frB, isOwn, isOwnL, Op.rd, Cl.datum, List.getElem?_cons_zero, List.getElem?_cons_succ, List.getElem?_nil, Option.getD_some, Option.getD_none, List.set_cons_zero, List.set_cons_succ, ne_eq, reduceCtorEq, not_false_eq_true, not_true_eq_false, true_and, and_true, if_true, if_false, ite_true, ite_false, Bool.false_eq_true, Bool.true_eq_false, Bool.true_and, Bool.and_true, Bool.false_and, Bool.and_false, Bool.not_true, Bool.not_false, false_implies, true_implies, forall_const, implies_true, bin_add, bin_sub, bin_mul, bin_fdiv, bin_mod, bin_adds, bin_addt, bin_addl, bin_mull, bin_mult, cmp_lt, cmp_le, cmp_gt, cmp_ge, cmp_eqi, cmp_nei, cmp_eqb, cmp_eqs, tru_bl, tru_int, tru_non, tru_tup, tru_lst, tru_frz, ix_tup, len_tup, tpl_tup, lsl_tup, slc_tup, seq_tup, ix_lst, len_lst, tpl_lst, lsl_lst, slc_lst, seq_lst, ix_frz, len_frz, tpl_frz, lsl_frz, slc_frz, seq_frz, len_str, blt_abs, blt_int, blt_intb, blt_max, blt_min, blt_str, blt_all, blt_any, blt_sum, opt_0, opt_1, rng_1, rng_2, atI_0, atI_1, atI_2, atI_3, atI_4, ixN_20, ixN_21, ty_bl_int, ty_bl_bool, ty_bl_str, ty_bl_tuple, ty_bl_list, ht_bl, nn_bl, mu_bl, ty_int_int, ty_int_bool, ty_int_str, ty_int_tuple, ty_int_list, ht_int, nn_int, mu_int, ty_str_int, ty_str_bool, ty_str_str, ty_str_tuple, ty_str_list, ht_str, nn_str, mu_str, ty_tup_int, ty_tup_bool, ty_tup_str, ty_tup_tuple, ty_tup_list, ht_tup, nn_tup, mu_tup, ty_lst_int, ty_lst_bool, ty_lst_str, ty_lst_tuple, ty_lst_list, ht_lst, nn_lst, mu_lst, ty_frz_int, ty_frz_bool, ty_frz_str, ty_frz_tuple, ty_frz_list, ht_frz, nn_frz, mu_frz, ty_non_int, ty_non_bool, ty_non_str, ty_non_tuple, ty_non_list, ht_non, nn_non, mu_non, List.map_cons, List.map_nil, exists_eq_left', decide_eq_true_eq, exists_eq_left, List.length_cons, List.length_nil, Nat.reduceAdd, Int.reduceEq, Int.reduceLT, Int.reduceLE, Int.reduceNeg, decide_true, decide_false, Cl.own.injEq, List.mem_cons, List.not_mem_nil, or_false, forall_eq_or_imp, forall_eq, Option.some.injEq, s_is_integer, fr_is_integer, p_is_integer, s_is_count, fr_is_count, p_is_count, s_check_count, fr_check_count, p_check_count, s_left_over, fr_left_over, p_left_over, s_left_by_turns, fr_left_by_turns, p_left_by_turns, s__law_state, fr__law_state, p__law_state, s__law_take, fr__law_take, p__law_take, s__law_is_whole, fr__law_is_whole, p__law_is_whole, s__law_same_v, fr__law_same_v, p__law_same_v, s__law_same_0, fr__law_same_0, p__law_same_0, s__law_told, fr__law_told, p__law_told, s__law_all_malformed, fr__law_all_malformed, p__law_all_malformed, s__law_great, fr__law_great, p__law_great, s__law_left, fr__law_left, p__law_left, s__law_turns, fr__law_turns, p__law_turns, s_law, fr_law, p_law, sn_expr, sn_asg, sn_asgl, sn_unp, sn_par, sn_app, sn_seti, sn_ife, sn_tr])
  refine lo_ok (by omega) (by unfold maxN; omega) (by omega) (by omega) ?_
  rw [hGn]
  ((try (dsimp only)); (try (rw [wN_eq])); try simp only [st_for, st_nil, st_ret, st_retn, st_brk, st_cnt, st_rmal, wRet, e_var, e_int, e_bl, e_non, e_str, e_fnv, e_gint, e_bin, e_neg, e_not, e_cmp, e_chn, e_isn, e_ntn, e_and, e_or, e_ite, e_tup, e_lst, e_call, e_cio, e_clv, e_blt, e_isi, e_ix, e_slc, e_rev, e_lrng, e_lc, e_met, wA, wP, wAnd, wOr, wT, wTA, wTO, wI, wCs, wHnd, pk, at_, put, putAll, putCs, wTgt, rng_1, rng_2, cellOf, frE, frF, frB, isOwn, isOwnL, Op.rd, Cl.datum, List.getElem?_cons_zero, List.getElem?_cons_succ, List.getElem?_nil, Option.getD_some, Option.getD_none, List.set_cons_zero, List.set_cons_succ, ne_eq, reduceCtorEq, not_false_eq_true, not_true_eq_false, true_and, and_true, if_true, if_false, ite_true, ite_false, Bool.false_eq_true, Bool.true_eq_false, Bool.true_and, Bool.and_true, Bool.false_and, Bool.and_false, Bool.not_true, Bool.not_false, false_implies, true_implies, forall_const, implies_true, bin_add, bin_sub, bin_mul, bin_fdiv, bin_mod, bin_adds, bin_addt, bin_addl, bin_mull, bin_mult, cmp_lt, cmp_le, cmp_gt, cmp_ge, cmp_eqi, cmp_nei, cmp_eqb, cmp_eqs, tru_bl, tru_int, tru_non, tru_tup, tru_lst, tru_frz, ix_tup, len_tup, tpl_tup, lsl_tup, slc_tup, seq_tup, ix_lst, len_lst, tpl_lst, lsl_lst, slc_lst, seq_lst, ix_frz, len_frz, tpl_frz, lsl_frz, slc_frz, seq_frz, len_str, blt_abs, blt_int, blt_intb, blt_max, blt_min, blt_str, blt_all, blt_any, blt_sum, opt_0, opt_1, rng_1, rng_2, atI_0, atI_1, atI_2, atI_3, atI_4, ixN_20, ixN_21, ty_bl_int, ty_bl_bool, ty_bl_str, ty_bl_tuple, ty_bl_list, ht_bl, nn_bl, mu_bl, ty_int_int, ty_int_bool, ty_int_str, ty_int_tuple, ty_int_list, ht_int, nn_int, mu_int, ty_str_int, ty_str_bool, ty_str_str, ty_str_tuple, ty_str_list, ht_str, nn_str, mu_str, ty_tup_int, ty_tup_bool, ty_tup_str, ty_tup_tuple, ty_tup_list, ht_tup, nn_tup, mu_tup, ty_lst_int, ty_lst_bool, ty_lst_str, ty_lst_tuple, ty_lst_list, ht_lst, nn_lst, mu_lst, ty_frz_int, ty_frz_bool, ty_frz_str, ty_frz_tuple, ty_frz_list, ht_frz, nn_frz, mu_frz, ty_non_int, ty_non_bool, ty_non_str, ty_non_tuple, ty_non_list, ht_non, nn_non, mu_non, List.map_cons, List.map_nil, exists_eq_left', decide_eq_true_eq, exists_eq_left, List.length_cons, List.length_nil, Nat.reduceAdd, Int.reduceEq, Int.reduceLT, Int.reduceLE, Int.reduceNeg, decide_true, decide_false, Cl.own.injEq, List.mem_cons, List.not_mem_nil, or_false, forall_eq_or_imp, forall_eq, Option.some.injEq, s_is_integer, fr_is_integer, p_is_integer, s_is_count, fr_is_count, p_is_count, s_check_count, fr_check_count, p_check_count, s_left_over, fr_left_over, p_left_over, s_left_by_turns, fr_left_by_turns, p_left_by_turns, s__law_state, fr__law_state, p__law_state, s__law_take, fr__law_take, p__law_take, s__law_is_whole, fr__law_is_whole, p__law_is_whole, s__law_same_v, fr__law_same_v, p__law_same_v, s__law_same_0, fr__law_same_0, p__law_same_0, s__law_told, fr__law_told, p__law_told, s__law_all_malformed, fr__law_all_malformed, p__law_all_malformed, s__law_great, fr__law_great, p__law_great, s__law_left, fr__law_left, p__law_left, s__law_turns, fr__law_turns, p__law_turns, s_law, fr_law, p_law, sn_expr, sn_asg, sn_asgl, sn_unp, sn_par, sn_app, sn_seti, sn_ife, sn_tr])
  refine lo_ok (by omega) (by unfold maxN; omega) (by omega) (by omega) ?_
  rw [show (((G + 1 : Nat) : Int) + 1).toNat - 1 = G + 1 by omega]
  ((try (dsimp only)); (try (rw [wN_eq])); try simp only [st_for, st_nil, st_ret, st_retn, st_brk, st_cnt, st_rmal, wRet, e_var, e_int, e_bl, e_non, e_str, e_fnv, e_gint, e_bin, e_neg, e_not, e_cmp, e_chn, e_isn, e_ntn, e_and, e_or, e_ite, e_tup, e_lst, e_call, e_cio, e_clv, e_blt, e_isi, e_ix, e_slc, e_rev, e_lrng, e_lc, e_met, wA, wP, wAnd, wOr, wT, wTA, wTO, wI, wCs, wHnd, pk, at_, put, putAll, putCs, wTgt, rng_1, rng_2, cellOf, frE, frF, frB, isOwn, isOwnL, Op.rd, Cl.datum, List.getElem?_cons_zero, List.getElem?_cons_succ, List.getElem?_nil, Option.getD_some, Option.getD_none, List.set_cons_zero, List.set_cons_succ, ne_eq, reduceCtorEq, not_false_eq_true, not_true_eq_false, true_and, and_true, if_true, if_false, ite_true, ite_false, Bool.false_eq_true, Bool.true_eq_false, Bool.true_and, Bool.and_true, Bool.false_and, Bool.and_false, Bool.not_true, Bool.not_false, false_implies, true_implies, forall_const, implies_true, bin_add, bin_sub, bin_mul, bin_fdiv, bin_mod, bin_adds, bin_addt, bin_addl, bin_mull, bin_mult, cmp_lt, cmp_le, cmp_gt, cmp_ge, cmp_eqi, cmp_nei, cmp_eqb, cmp_eqs, tru_bl, tru_int, tru_non, tru_tup, tru_lst, tru_frz, ix_tup, len_tup, tpl_tup, lsl_tup, slc_tup, seq_tup, ix_lst, len_lst, tpl_lst, lsl_lst, slc_lst, seq_lst, ix_frz, len_frz, tpl_frz, lsl_frz, slc_frz, seq_frz, len_str, blt_abs, blt_int, blt_intb, blt_max, blt_min, blt_str, blt_all, blt_any, blt_sum, opt_0, opt_1, rng_1, rng_2, atI_0, atI_1, atI_2, atI_3, atI_4, ixN_20, ixN_21, ty_bl_int, ty_bl_bool, ty_bl_str, ty_bl_tuple, ty_bl_list, ht_bl, nn_bl, mu_bl, ty_int_int, ty_int_bool, ty_int_str, ty_int_tuple, ty_int_list, ht_int, nn_int, mu_int, ty_str_int, ty_str_bool, ty_str_str, ty_str_tuple, ty_str_list, ht_str, nn_str, mu_str, ty_tup_int, ty_tup_bool, ty_tup_str, ty_tup_tuple, ty_tup_list, ht_tup, nn_tup, mu_tup, ty_lst_int, ty_lst_bool, ty_lst_str, ty_lst_tuple, ty_lst_list, ht_lst, nn_lst, mu_lst, ty_frz_int, ty_frz_bool, ty_frz_str, ty_frz_tuple, ty_frz_list, ht_frz, nn_frz, mu_frz, ty_non_int, ty_non_bool, ty_non_str, ty_non_tuple, ty_non_list, ht_non, nn_non, mu_non, List.map_cons, List.map_nil, exists_eq_left', decide_eq_true_eq, exists_eq_left, List.length_cons, List.length_nil, Nat.reduceAdd, Int.reduceEq, Int.reduceLT, Int.reduceLE, Int.reduceNeg, decide_true, decide_false, Cl.own.injEq, List.mem_cons, List.not_mem_nil, or_false, forall_eq_or_imp, forall_eq, Option.some.injEq, s_is_integer, fr_is_integer, p_is_integer, s_is_count, fr_is_count, p_is_count, s_check_count, fr_check_count, p_check_count, s_left_over, fr_left_over, p_left_over, s_left_by_turns, fr_left_by_turns, p_left_by_turns, s__law_state, fr__law_state, p__law_state, s__law_take, fr__law_take, p__law_take, s__law_is_whole, fr__law_is_whole, p__law_is_whole, s__law_same_v, fr__law_same_v, p__law_same_v, s__law_same_0, fr__law_same_0, p__law_same_0, s__law_told, fr__law_told, p__law_told, s__law_all_malformed, fr__law_all_malformed, p__law_all_malformed, s__law_great, fr__law_great, p__law_great, s__law_left, fr__law_left, p__law_left, s__law_turns, fr__law_turns, p__law_turns, s_law, fr_law, p_law, sn_expr, sn_asg, sn_asgl, sn_unp, sn_par, sn_app, sn_seti, sn_ife, sn_tr])
  ((try (dsimp only)); (try (rw [wN_eq])); try simp only [st_for, st_nil, st_ret, st_retn, st_brk, st_cnt, st_rmal, wRet, e_var, e_int, e_bl, e_non, e_str, e_fnv, e_gint, e_bin, e_neg, e_not, e_cmp, e_chn, e_isn, e_ntn, e_and, e_or, e_ite, e_tup, e_lst, e_call, e_cio, e_clv, e_blt, e_isi, e_ix, e_slc, e_rev, e_lrng, e_lc, e_met, wA, wP, wAnd, wOr, wT, wTA, wTO, wI, wCs, wHnd, pk, at_, put, putAll, putCs, wTgt, rng_1, rng_2, cellOf, frE, frF, frB, isOwn, isOwnL, Op.rd, Cl.datum, List.getElem?_cons_zero, List.getElem?_cons_succ, List.getElem?_nil, Option.getD_some, Option.getD_none, List.set_cons_zero, List.set_cons_succ, ne_eq, reduceCtorEq, not_false_eq_true, not_true_eq_false, true_and, and_true, if_true, if_false, ite_true, ite_false, Bool.false_eq_true, Bool.true_eq_false, Bool.true_and, Bool.and_true, Bool.false_and, Bool.and_false, Bool.not_true, Bool.not_false, false_implies, true_implies, forall_const, implies_true, bin_add, bin_sub, bin_mul, bin_fdiv, bin_mod, bin_adds, bin_addt, bin_addl, bin_mull, bin_mult, cmp_lt, cmp_le, cmp_gt, cmp_ge, cmp_eqi, cmp_nei, cmp_eqb, cmp_eqs, tru_bl, tru_int, tru_non, tru_tup, tru_lst, tru_frz, ix_tup, len_tup, tpl_tup, lsl_tup, slc_tup, seq_tup, ix_lst, len_lst, tpl_lst, lsl_lst, slc_lst, seq_lst, ix_frz, len_frz, tpl_frz, lsl_frz, slc_frz, seq_frz, len_str, blt_abs, blt_int, blt_intb, blt_max, blt_min, blt_str, blt_all, blt_any, blt_sum, opt_0, opt_1, rng_1, rng_2, atI_0, atI_1, atI_2, atI_3, atI_4, ixN_20, ixN_21, ty_bl_int, ty_bl_bool, ty_bl_str, ty_bl_tuple, ty_bl_list, ht_bl, nn_bl, mu_bl, ty_int_int, ty_int_bool, ty_int_str, ty_int_tuple, ty_int_list, ht_int, nn_int, mu_int, ty_str_int, ty_str_bool, ty_str_str, ty_str_tuple, ty_str_list, ht_str, nn_str, mu_str, ty_tup_int, ty_tup_bool, ty_tup_str, ty_tup_tuple, ty_tup_list, ht_tup, nn_tup, mu_tup, ty_lst_int, ty_lst_bool, ty_lst_str, ty_lst_tuple, ty_lst_list, ht_lst, nn_lst, mu_lst, ty_frz_int, ty_frz_bool, ty_frz_str, ty_frz_tuple, ty_frz_list, ht_frz, nn_frz, mu_frz, ty_non_int, ty_non_bool, ty_non_str, ty_non_tuple, ty_non_list, ht_non, nn_non, mu_non, List.map_cons, List.map_nil, exists_eq_left', decide_eq_true_eq, exists_eq_left, List.length_cons, List.length_nil, Nat.reduceAdd, Int.reduceEq, Int.reduceLT, Int.reduceLE, Int.reduceNeg, decide_true, decide_false, Cl.own.injEq, List.mem_cons, List.not_mem_nil, or_false, forall_eq_or_imp, forall_eq, Option.some.injEq, s_is_integer, fr_is_integer, p_is_integer, s_is_count, fr_is_count, p_is_count, s_check_count, fr_check_count, p_check_count, s_left_over, fr_left_over, p_left_over, s_left_by_turns, fr_left_by_turns, p_left_by_turns, s__law_state, fr__law_state, p__law_state, s__law_take, fr__law_take, p__law_take, s__law_is_whole, fr__law_is_whole, p__law_is_whole, s__law_same_v, fr__law_same_v, p__law_same_v, s__law_same_0, fr__law_same_0, p__law_same_0, s__law_told, fr__law_told, p__law_told, s__law_all_malformed, fr__law_all_malformed, p__law_all_malformed, s__law_great, fr__law_great, p__law_great, s__law_left, fr__law_left, p__law_left, s__law_turns, fr__law_turns, p__law_turns, s_law, fr_law, p_law, sn_expr, sn_asg, sn_asgl, sn_unp, sn_par, sn_app, sn_seti, sn_ife, sn_tr])
  obtain ⟨b1, b2⟩ := pl_bd (q := 2 + q) (by omega) G
  refine ⟨_, rfl, rfl, ?_⟩
  ((try (dsimp only)); (try (rw [wN_eq])); try simp only [st_for, st_nil, st_ret, st_retn, st_brk, st_cnt, st_rmal, wRet, e_var, e_int, e_bl, e_non, e_str, e_fnv, e_gint, e_bin, e_neg, e_not, e_cmp, e_chn, e_isn, e_ntn, e_and, e_or, e_ite, e_tup, e_lst, e_call, e_cio, e_clv, e_blt, e_isi, e_ix, e_slc, e_rev, e_lrng, e_lc, e_met, wA, wP, wAnd, wOr, wT, wTA, wTO, wI, wCs, wHnd, pk, at_, put, putAll, putCs, wTgt, rng_1, rng_2, cellOf, frE, frF, frB, isOwn, isOwnL, Op.rd, Cl.datum, List.getElem?_cons_zero, List.getElem?_cons_succ, List.getElem?_nil, Option.getD_some, Option.getD_none, List.set_cons_zero, List.set_cons_succ, ne_eq, reduceCtorEq, not_false_eq_true, not_true_eq_false, true_and, and_true, if_true, if_false, ite_true, ite_false, Bool.false_eq_true, Bool.true_eq_false, Bool.true_and, Bool.and_true, Bool.false_and, Bool.and_false, Bool.not_true, Bool.not_false, false_implies, true_implies, forall_const, implies_true, bin_add, bin_sub, bin_mul, bin_fdiv, bin_mod, bin_adds, bin_addt, bin_addl, bin_mull, bin_mult, cmp_lt, cmp_le, cmp_gt, cmp_ge, cmp_eqi, cmp_nei, cmp_eqb, cmp_eqs, tru_bl, tru_int, tru_non, tru_tup, tru_lst, tru_frz, ix_tup, len_tup, tpl_tup, lsl_tup, slc_tup, seq_tup, ix_lst, len_lst, tpl_lst, lsl_lst, slc_lst, seq_lst, ix_frz, len_frz, tpl_frz, lsl_frz, slc_frz, seq_frz, len_str, blt_abs, blt_int, blt_intb, blt_max, blt_min, blt_str, blt_all, blt_any, blt_sum, opt_0, opt_1, rng_1, rng_2, atI_0, atI_1, atI_2, atI_3, atI_4, ixN_20, ixN_21, ty_bl_int, ty_bl_bool, ty_bl_str, ty_bl_tuple, ty_bl_list, ht_bl, nn_bl, mu_bl, ty_int_int, ty_int_bool, ty_int_str, ty_int_tuple, ty_int_list, ht_int, nn_int, mu_int, ty_str_int, ty_str_bool, ty_str_str, ty_str_tuple, ty_str_list, ht_str, nn_str, mu_str, ty_tup_int, ty_tup_bool, ty_tup_str, ty_tup_tuple, ty_tup_list, ht_tup, nn_tup, mu_tup, ty_lst_int, ty_lst_bool, ty_lst_str, ty_lst_tuple, ty_lst_list, ht_lst, nn_lst, mu_lst, ty_frz_int, ty_frz_bool, ty_frz_str, ty_frz_tuple, ty_frz_list, ht_frz, nn_frz, mu_frz, ty_non_int, ty_non_bool, ty_non_str, ty_non_tuple, ty_non_list, ht_non, nn_non, mu_non, List.map_cons, List.map_nil, exists_eq_left', decide_eq_true_eq, exists_eq_left, List.length_cons, List.length_nil, Nat.reduceAdd, Int.reduceEq, Int.reduceLT, Int.reduceLE, Int.reduceNeg, decide_true, decide_false, Cl.own.injEq, List.mem_cons, List.not_mem_nil, or_false, forall_eq_or_imp, forall_eq, Option.some.injEq, s_is_integer, fr_is_integer, p_is_integer, s_is_count, fr_is_count, p_is_count, s_check_count, fr_check_count, p_check_count, s_left_over, fr_left_over, p_left_over, s_left_by_turns, fr_left_by_turns, p_left_by_turns, s__law_state, fr__law_state, p__law_state, s__law_take, fr__law_take, p__law_take, s__law_is_whole, fr__law_is_whole, p__law_is_whole, s__law_same_v, fr__law_same_v, p__law_same_v, s__law_same_0, fr__law_same_0, p__law_same_0, s__law_told, fr__law_told, p__law_told, s__law_all_malformed, fr__law_all_malformed, p__law_all_malformed, s__law_great, fr__law_great, p__law_great, s__law_left, fr__law_left, p__law_left, s__law_turns, fr__law_turns, p__law_turns, s_law, fr_law, p_law, sn_expr, sn_asg, sn_asgl, sn_unp, sn_par, sn_app, sn_seti, sn_ife, sn_tr])
  rw [if_neg (by simp [isI]), if_pos (by omega), if_neg (by simp; omega)]
  refine ⟨by omega, same_eq ?_ ?_⟩
  · rw [pl_more, show pl (2 + q) G + 1 - 1 + (2 + q) = pl (2 + q) G + (2 + q) by omega, show ((G + 1 : Nat) : Int) + 1 = (G : Int) + 2 by omega]
  ((try (dsimp only)); (try (rw [wN_eq])); try simp only [st_for, st_nil, st_ret, st_retn, st_brk, st_cnt, st_rmal, wRet, e_var, e_int, e_bl, e_non, e_str, e_fnv, e_gint, e_bin, e_neg, e_not, e_cmp, e_chn, e_isn, e_ntn, e_and, e_or, e_ite, e_tup, e_lst, e_call, e_cio, e_clv, e_blt, e_isi, e_ix, e_slc, e_rev, e_lrng, e_lc, e_met, wA, wP, wAnd, wOr, wT, wTA, wTO, wI, wCs, wHnd, pk, at_, put, putAll, putCs, wTgt, rng_1, rng_2, cellOf, frE, frF, frB, isOwn, isOwnL, Op.rd, Cl.datum, List.getElem?_cons_zero, List.getElem?_cons_succ, List.getElem?_nil, Option.getD_some, Option.getD_none, List.set_cons_zero, List.set_cons_succ, ne_eq, reduceCtorEq, not_false_eq_true, not_true_eq_false, true_and, and_true, if_true, if_false, ite_true, ite_false, Bool.false_eq_true, Bool.true_eq_false, Bool.true_and, Bool.and_true, Bool.false_and, Bool.and_false, Bool.not_true, Bool.not_false, false_implies, true_implies, forall_const, implies_true, bin_add, bin_sub, bin_mul, bin_fdiv, bin_mod, bin_adds, bin_addt, bin_addl, bin_mull, bin_mult, cmp_lt, cmp_le, cmp_gt, cmp_ge, cmp_eqi, cmp_nei, cmp_eqb, cmp_eqs, tru_bl, tru_int, tru_non, tru_tup, tru_lst, tru_frz, ix_tup, len_tup, tpl_tup, lsl_tup, slc_tup, seq_tup, ix_lst, len_lst, tpl_lst, lsl_lst, slc_lst, seq_lst, ix_frz, len_frz, tpl_frz, lsl_frz, slc_frz, seq_frz, len_str, blt_abs, blt_int, blt_intb, blt_max, blt_min, blt_str, blt_all, blt_any, blt_sum, opt_0, opt_1, rng_1, rng_2, atI_0, atI_1, atI_2, atI_3, atI_4, ixN_20, ixN_21, ty_bl_int, ty_bl_bool, ty_bl_str, ty_bl_tuple, ty_bl_list, ht_bl, nn_bl, mu_bl, ty_int_int, ty_int_bool, ty_int_str, ty_int_tuple, ty_int_list, ht_int, nn_int, mu_int, ty_str_int, ty_str_bool, ty_str_str, ty_str_tuple, ty_str_list, ht_str, nn_str, mu_str, ty_tup_int, ty_tup_bool, ty_tup_str, ty_tup_tuple, ty_tup_list, ht_tup, nn_tup, mu_tup, ty_lst_int, ty_lst_bool, ty_lst_str, ty_lst_tuple, ty_lst_list, ht_lst, nn_lst, mu_lst, ty_frz_int, ty_frz_bool, ty_frz_str, ty_frz_tuple, ty_frz_list, ht_frz, nn_frz, mu_frz, ty_non_int, ty_non_bool, ty_non_str, ty_non_tuple, ty_non_list, ht_non, nn_non, mu_non, List.map_cons, List.map_nil, exists_eq_left', decide_eq_true_eq, exists_eq_left, List.length_cons, List.length_nil, Nat.reduceAdd, Int.reduceEq, Int.reduceLT, Int.reduceLE, Int.reduceNeg, decide_true, decide_false, Cl.own.injEq, List.mem_cons, List.not_mem_nil, or_false, forall_eq_or_imp, forall_eq, Option.some.injEq, s_is_integer, fr_is_integer, p_is_integer, s_is_count, fr_is_count, p_is_count, s_check_count, fr_check_count, p_check_count, s_left_over, fr_left_over, p_left_over, s_left_by_turns, fr_left_by_turns, p_left_by_turns, s__law_state, fr__law_state, p__law_state, s__law_take, fr__law_take, p__law_take, s__law_is_whole, fr__law_is_whole, p__law_is_whole, s__law_same_v, fr__law_same_v, p__law_same_v, s__law_same_0, fr__law_same_0, p__law_same_0, s__law_told, fr__law_told, p__law_told, s__law_all_malformed, fr__law_all_malformed, p__law_all_malformed, s__law_great, fr__law_great, p__law_great, s__law_left, fr__law_left, p__law_left, s__law_turns, fr__law_turns, p__law_turns, s_law, fr_law, p_law, sn_expr, sn_asg, sn_asgl, sn_unp, sn_par, sn_app, sn_seti, sn_ife, sn_tr])
  have bad3 : ∀ (d e : D), hasTy d = true → hasTy e = true → (cnt d 1 maxN && cnt e 2 40) = false → spv 3 [d, e] (fun _ _ => False) (fun x => x = .mal) := fun d e h1 h2 h3 => left_bad h1 h2 h3
  have bad4 : ∀ (d e : D), hasTy d = true → hasTy e = true → (cnt d 1 2000 && cnt e 2 40) = false → spv 4 [d, e] (fun _ _ => False) (fun x => x = .mal) := fun d e h1 h2 h3 => left_bad h1 h2 h3
  let J : Nat → Loca → Prop := fun k env => ∃ (its : List (Nat × D × D)) (c : Cl), its.length ≤ k ∧ (∀ p ∈ its, spv p.1 [p.2.1, p.2.2] (fun _ _ => False) (fun e => e = .mal)) ∧
    env = [.val (.frz (ns.map D.int)), .own (.lst [.int a, .int b]), .val (.int (1 + n)), .val (.int (2 + q)), .val (.int (pl (2 + q) ((1 + n).toNat - 1) + 1)), .val (.int (1 + m)), .val (.int ((G + 1 : Nat) : Int)), .val (.int (dk 2 i)), .val (.int (pl (2 + q) G + 1)), .val (.int (pl (2 + q) (G + 1) + 1)), .own (.lst (its.map tupO)), c]
  have two : ∀ {its : List (Nat × D × D)} {x1 y1 x2 y2 : D}, (∀ p ∈ its, spv p.1 [p.2.1, p.2.2] (fun _ _ => False) (fun e => e = .mal)) → spv 3 [x1, y1] (fun _ _ => False) (fun x => x = .mal) → spv 4 [x2, y2] (fun _ _ => False) (fun x => x = .mal) →
      ∀ p ∈ its ++ [(3, x1, y1), (4, x2, y2)], spv p.1 [p.2.1, p.2.2] (fun _ _ => False) (fun e => e = .mal) := fun h h1 h2 p hp => by
    simp only [List.mem_append, List.mem_cons, List.not_mem_nil, or_false] at hp
    rcases hp with hp | rfl | rfl
    · exact h p hp
    · exact h1
    · exact h2
  refine forS_rule (fun k env => J (2 + 2 * k) env) ⟨[(4, .int 2001, .int 2), (3, .int 1000000000000000000000000000001, .int 2)], _, by simp, ?_, rfl⟩ ?_ ?_
  · intro p hp
    simp only [List.mem_cons, List.not_mem_nil, or_false] at hp
    rcases hp with rfl | rfl
    · exact bad4 _ _ rfl rfl (by decide)
    · exact bad3 _ _ rfl rfl (by decide)
  · rintro k d env nx hd ⟨its, c, hlen, hits, rfl⟩ hn
    have hk := (List.getElem?_eq_some_iff.mp hd).1
    simp only [List.length_cons, List.length_nil] at hk
    have hmem := List.mem_of_getElem? hd
    simp only [st_for, st_nil, st_expr, st_asg, st_asgl, st_unp, st_par, st_app, st_seti, st_ret, st_retn, st_ife, st_brk, st_cnt, st_rmal, st_tr, wRet, e_var, e_int, e_bl, e_non, e_str, e_fnv, e_gint, e_bin, e_neg, e_not, e_cmp, e_chn, e_isn, e_ntn, e_and, e_or, e_ite, e_tup, e_lst, e_call, e_cio, e_clv, e_blt, e_isi, e_ix, e_slc, e_rev, e_lrng, e_lc, e_met, wA, wP, wAnd, wOr, wT, wTA, wTO, wI, wCs, wHnd, pk, at_, put, putAll, putCs, wTgt, rng_1, rng_2, cellOf, frE, frF, frB, isOwn, isOwnL, Op.rd, Cl.datum, List.getElem?_cons_zero, List.getElem?_cons_succ, List.getElem?_nil, Option.getD_some, Option.getD_none, List.set_cons_zero, List.set_cons_succ, ne_eq, reduceCtorEq, not_false_eq_true, not_true_eq_false, true_and, and_true, if_true, if_false, ite_true, ite_false, Bool.false_eq_true, Bool.true_eq_false, Bool.true_and, Bool.and_true, Bool.false_and, Bool.and_false, Bool.not_true, Bool.not_false, false_implies, true_implies, forall_const, implies_true, bin_add, bin_sub, bin_mul, bin_fdiv, bin_mod, bin_adds, bin_addt, bin_addl, bin_mull, bin_mult, cmp_lt, cmp_le, cmp_gt, cmp_ge, cmp_eqi, cmp_nei, cmp_eqb, cmp_eqs, tru_bl, tru_int, tru_non, tru_tup, tru_lst, tru_frz, ix_tup, len_tup, tpl_tup, lsl_tup, slc_tup, seq_tup, ix_lst, len_lst, tpl_lst, lsl_lst, slc_lst, seq_lst, ix_frz, len_frz, tpl_frz, lsl_frz, slc_frz, seq_frz, len_str, blt_abs, blt_int, blt_intb, blt_max, blt_min, blt_str, blt_all, blt_any, blt_sum, opt_0, opt_1, rng_1, rng_2, atI_0, atI_1, atI_2, atI_3, atI_4, ixN_20, ixN_21, ty_bl_int, ty_bl_bool, ty_bl_str, ty_bl_tuple, ty_bl_list, ht_bl, nn_bl, mu_bl, ty_int_int, ty_int_bool, ty_int_str, ty_int_tuple, ty_int_list, ht_int, nn_int, mu_int, ty_str_int, ty_str_bool, ty_str_str, ty_str_tuple, ty_str_list, ht_str, nn_str, mu_str, ty_tup_int, ty_tup_bool, ty_tup_str, ty_tup_tuple, ty_tup_list, ht_tup, nn_tup, mu_tup, ty_lst_int, ty_lst_bool, ty_lst_str, ty_lst_tuple, ty_lst_list, ht_lst, nn_lst, mu_lst, ty_frz_int, ty_frz_bool, ty_frz_str, ty_frz_tuple, ty_frz_list, ht_frz, nn_frz, mu_frz, ty_non_int, ty_non_bool, ty_non_str, ty_non_tuple, ty_non_list, ht_non, nn_non, mu_non, List.map_cons, List.map_nil, exists_eq_left', decide_eq_true_eq, exists_eq_left, List.length_cons, List.length_nil, Nat.reduceAdd, Int.reduceEq, Int.reduceLT, Int.reduceLE, Int.reduceNeg, decide_true, decide_false, Cl.own.injEq, List.mem_cons, List.not_mem_nil, or_false, forall_eq_or_imp, forall_eq, Option.some.injEq, s_is_integer, fr_is_integer, p_is_integer, s_is_count, fr_is_count, p_is_count, s_check_count, fr_check_count, p_check_count, s_left_over, fr_left_over, p_left_over, s_left_by_turns, fr_left_by_turns, p_left_by_turns, s__law_state, fr__law_state, p__law_state, s__law_take, fr__law_take, p__law_take, s__law_is_whole, fr__law_is_whole, p__law_is_whole, s__law_same_v, fr__law_same_v, p__law_same_v, s__law_same_0, fr__law_same_0, p__law_same_0, s__law_told, fr__law_told, p__law_told, s__law_all_malformed, fr__law_all_malformed, p__law_all_malformed, s__law_great, fr__law_great, p__law_great, s__law_left, fr__law_left, p__law_left, s__law_turns, fr__law_turns, p__law_turns, s_law, fr_law, p_law]
    refine ⟨by simp [sizeLine]; omega, hn _ _ (.refl _ _) ⟨its ++ [(3, d, .int 2), (4, d, .int 2)], .val d, by simp; omega, two hits ?_ ?_, ?_⟩⟩
    · simp only [List.mem_cons, List.not_mem_nil, or_false] at hmem
      rcases hmem with rfl | rfl | rfl | rfl | rfl <;> exact bad3 _ _ rfl rfl (by decide)
    · simp only [List.mem_cons, List.not_mem_nil, or_false] at hmem
      rcases hmem with rfl | rfl | rfl | rfl | rfl <;> exact bad4 _ _ rfl rfl (by decide)
    · rw [List.map_append]
      rfl
  · rintro env ⟨its, c, hlen, hits, rfl⟩
    simp only [st_for, st_nil, st_ret, st_retn, st_brk, st_cnt, st_rmal, wRet, e_var, e_int, e_bl, e_non, e_str, e_fnv, e_gint, e_bin, e_neg, e_not, e_cmp, e_chn, e_isn, e_ntn, e_and, e_or, e_ite, e_tup, e_lst, e_call, e_cio, e_clv, e_blt, e_isi, e_ix, e_slc, e_rev, e_lrng, e_lc, e_met, wA, wP, wAnd, wOr, wT, wTA, wTO, wI, wCs, wHnd, pk, at_, put, putAll, putCs, wTgt, rng_1, rng_2, cellOf, frE, frF, frB, isOwn, isOwnL, Op.rd, Cl.datum, List.getElem?_cons_zero, List.getElem?_cons_succ, List.getElem?_nil, Option.getD_some, Option.getD_none, List.set_cons_zero, List.set_cons_succ, ne_eq, reduceCtorEq, not_false_eq_true, not_true_eq_false, true_and, and_true, if_true, if_false, ite_true, ite_false, Bool.false_eq_true, Bool.true_eq_false, Bool.true_and, Bool.and_true, Bool.false_and, Bool.and_false, Bool.not_true, Bool.not_false, false_implies, true_implies, forall_const, implies_true, bin_add, bin_sub, bin_mul, bin_fdiv, bin_mod, bin_adds, bin_addt, bin_addl, bin_mull, bin_mult, cmp_lt, cmp_le, cmp_gt, cmp_ge, cmp_eqi, cmp_nei, cmp_eqb, cmp_eqs, tru_bl, tru_int, tru_non, tru_tup, tru_lst, tru_frz, ix_tup, len_tup, tpl_tup, lsl_tup, slc_tup, seq_tup, ix_lst, len_lst, tpl_lst, lsl_lst, slc_lst, seq_lst, ix_frz, len_frz, tpl_frz, lsl_frz, slc_frz, seq_frz, len_str, blt_abs, blt_int, blt_intb, blt_max, blt_min, blt_str, blt_all, blt_any, blt_sum, opt_0, opt_1, rng_1, rng_2, atI_0, atI_1, atI_2, atI_3, atI_4, ixN_20, ixN_21, ty_bl_int, ty_bl_bool, ty_bl_str, ty_bl_tuple, ty_bl_list, ht_bl, nn_bl, mu_bl, ty_int_int, ty_int_bool, ty_int_str, ty_int_tuple, ty_int_list, ht_int, nn_int, mu_int, ty_str_int, ty_str_bool, ty_str_str, ty_str_tuple, ty_str_list, ht_str, nn_str, mu_str, ty_tup_int, ty_tup_bool, ty_tup_str, ty_tup_tuple, ty_tup_list, ht_tup, nn_tup, mu_tup, ty_lst_int, ty_lst_bool, ty_lst_str, ty_lst_tuple, ty_lst_list, ht_lst, nn_lst, mu_lst, ty_frz_int, ty_frz_bool, ty_frz_str, ty_frz_tuple, ty_frz_list, ht_frz, nn_frz, mu_frz, ty_non_int, ty_non_bool, ty_non_str, ty_non_tuple, ty_non_list, ht_non, nn_non, mu_non, List.map_cons, List.map_nil, exists_eq_left', decide_eq_true_eq, exists_eq_left, List.length_cons, List.length_nil, Nat.reduceAdd, Int.reduceEq, Int.reduceLT, Int.reduceLE, Int.reduceNeg, decide_true, decide_false, Cl.own.injEq, List.mem_cons, List.not_mem_nil, or_false, forall_eq_or_imp, forall_eq, Option.some.injEq, s_is_integer, fr_is_integer, p_is_integer, s_is_count, fr_is_count, p_is_count, s_check_count, fr_check_count, p_check_count, s_left_over, fr_left_over, p_left_over, s_left_by_turns, fr_left_by_turns, p_left_by_turns, s__law_state, fr__law_state, p__law_state, s__law_take, fr__law_take, p__law_take, s__law_is_whole, fr__law_is_whole, p__law_is_whole, s__law_same_v, fr__law_same_v, p__law_same_v, s__law_same_0, fr__law_same_0, p__law_same_0, s__law_told, fr__law_told, p__law_told, s__law_all_malformed, fr__law_all_malformed, p__law_all_malformed, s__law_great, fr__law_great, p__law_great, s__law_left, fr__law_left, p__law_left, s__law_turns, fr__law_turns, p__law_turns, s_law, fr_law, p_law, sn_expr, sn_asg, sn_asgl, sn_unp, sn_par, sn_app, sn_seti, sn_ife, sn_tr]
    refine forS_rule (fun k env => J (12 + 2 * k) env) ⟨its, c, by simp only [List.length_cons, List.length_nil] at hlen; omega, hits, rfl⟩ ?_ ?_
    · rintro k d env nx hd ⟨its, c, hlen, hits, rfl⟩ hn
      have hk := (List.getElem?_eq_some_iff.mp hd).1
      simp only [List.length_cons, List.length_nil] at hk
      have hmem := List.mem_of_getElem? hd
      simp only [st_for, st_nil, st_expr, st_asg, st_asgl, st_unp, st_par, st_app, st_seti, st_ret, st_retn, st_ife, st_brk, st_cnt, st_rmal, st_tr, wRet, e_var, e_int, e_bl, e_non, e_str, e_fnv, e_gint, e_bin, e_neg, e_not, e_cmp, e_chn, e_isn, e_ntn, e_and, e_or, e_ite, e_tup, e_lst, e_call, e_cio, e_clv, e_blt, e_isi, e_ix, e_slc, e_rev, e_lrng, e_lc, e_met, wA, wP, wAnd, wOr, wT, wTA, wTO, wI, wCs, wHnd, pk, at_, put, putAll, putCs, wTgt, rng_1, rng_2, cellOf, frE, frF, frB, isOwn, isOwnL, Op.rd, Cl.datum, List.getElem?_cons_zero, List.getElem?_cons_succ, List.getElem?_nil, Option.getD_some, Option.getD_none, List.set_cons_zero, List.set_cons_succ, ne_eq, reduceCtorEq, not_false_eq_true, not_true_eq_false, true_and, and_true, if_true, if_false, ite_true, ite_false, Bool.false_eq_true, Bool.true_eq_false, Bool.true_and, Bool.and_true, Bool.false_and, Bool.and_false, Bool.not_true, Bool.not_false, false_implies, true_implies, forall_const, implies_true, bin_add, bin_sub, bin_mul, bin_fdiv, bin_mod, bin_adds, bin_addt, bin_addl, bin_mull, bin_mult, cmp_lt, cmp_le, cmp_gt, cmp_ge, cmp_eqi, cmp_nei, cmp_eqb, cmp_eqs, tru_bl, tru_int, tru_non, tru_tup, tru_lst, tru_frz, ix_tup, len_tup, tpl_tup, lsl_tup, slc_tup, seq_tup, ix_lst, len_lst, tpl_lst, lsl_lst, slc_lst, seq_lst, ix_frz, len_frz, tpl_frz, lsl_frz, slc_frz, seq_frz, len_str, blt_abs, blt_int, blt_intb, blt_max, blt_min, blt_str, blt_all, blt_any, blt_sum, opt_0, opt_1, rng_1, rng_2, atI_0, atI_1, atI_2, atI_3, atI_4, ixN_20, ixN_21, ty_bl_int, ty_bl_bool, ty_bl_str, ty_bl_tuple, ty_bl_list, ht_bl, nn_bl, mu_bl, ty_int_int, ty_int_bool, ty_int_str, ty_int_tuple, ty_int_list, ht_int, nn_int, mu_int, ty_str_int, ty_str_bool, ty_str_str, ty_str_tuple, ty_str_list, ht_str, nn_str, mu_str, ty_tup_int, ty_tup_bool, ty_tup_str, ty_tup_tuple, ty_tup_list, ht_tup, nn_tup, mu_tup, ty_lst_int, ty_lst_bool, ty_lst_str, ty_lst_tuple, ty_lst_list, ht_lst, nn_lst, mu_lst, ty_frz_int, ty_frz_bool, ty_frz_str, ty_frz_tuple, ty_frz_list, ht_frz, nn_frz, mu_frz, ty_non_int, ty_non_bool, ty_non_str, ty_non_tuple, ty_non_list, ht_non, nn_non, mu_non, List.map_cons, List.map_nil, exists_eq_left', decide_eq_true_eq, exists_eq_left, List.length_cons, List.length_nil, Nat.reduceAdd, Int.reduceEq, Int.reduceLT, Int.reduceLE, Int.reduceNeg, decide_true, decide_false, Cl.own.injEq, List.mem_cons, List.not_mem_nil, or_false, forall_eq_or_imp, forall_eq, Option.some.injEq, s_is_integer, fr_is_integer, p_is_integer, s_is_count, fr_is_count, p_is_count, s_check_count, fr_check_count, p_check_count, s_left_over, fr_left_over, p_left_over, s_left_by_turns, fr_left_by_turns, p_left_by_turns, s__law_state, fr__law_state, p__law_state, s__law_take, fr__law_take, p__law_take, s__law_is_whole, fr__law_is_whole, p__law_is_whole, s__law_same_v, fr__law_same_v, p__law_same_v, s__law_same_0, fr__law_same_0, p__law_same_0, s__law_told, fr__law_told, p__law_told, s__law_all_malformed, fr__law_all_malformed, p__law_all_malformed, s__law_great, fr__law_great, p__law_great, s__law_left, fr__law_left, p__law_left, s__law_turns, fr__law_turns, p__law_turns, s_law, fr_law, p_law]
      refine ⟨by simp [sizeLine]; omega, hn _ _ (.refl _ _) ⟨its ++ [(3, .int 5, d), (4, .int 5, d)], .val d, by simp; omega, two hits ?_ ?_, ?_⟩⟩
      · simp only [List.mem_cons, List.not_mem_nil, or_false] at hmem
        rcases hmem with rfl | rfl | rfl | rfl <;> exact bad3 _ _ rfl rfl (by decide)
      · simp only [List.mem_cons, List.not_mem_nil, or_false] at hmem
        rcases hmem with rfl | rfl | rfl | rfl <;> exact bad4 _ _ rfl rfl (by decide)
      · rw [List.map_append]
        rfl
    · rintro env ⟨its, c, hlen, hits, rfl⟩
      simp only [st_for, st_nil, st_expr, st_asg, st_asgl, st_unp, st_par, st_app, st_seti, st_ret, st_retn, st_ife, st_brk, st_cnt, st_rmal, st_tr, wRet, e_var, e_int, e_bl, e_non, e_str, e_fnv, e_gint, e_bin, e_neg, e_not, e_cmp, e_chn, e_isn, e_ntn, e_and, e_or, e_ite, e_tup, e_lst, e_call, e_cio, e_clv, e_blt, e_isi, e_ix, e_slc, e_rev, e_lrng, e_lc, e_met, wA, wP, wAnd, wOr, wT, wTA, wTO, wI, wCs, wHnd, pk, at_, put, putAll, putCs, wTgt, rng_1, rng_2, cellOf, frE, frF, frB, isOwn, isOwnL, Op.rd, Cl.datum, List.getElem?_cons_zero, List.getElem?_cons_succ, List.getElem?_nil, Option.getD_some, Option.getD_none, List.set_cons_zero, List.set_cons_succ, ne_eq, reduceCtorEq, not_false_eq_true, not_true_eq_false, true_and, and_true, if_true, if_false, ite_true, ite_false, Bool.false_eq_true, Bool.true_eq_false, Bool.true_and, Bool.and_true, Bool.false_and, Bool.and_false, Bool.not_true, Bool.not_false, false_implies, true_implies, forall_const, implies_true, bin_add, bin_sub, bin_mul, bin_fdiv, bin_mod, bin_adds, bin_addt, bin_addl, bin_mull, bin_mult, cmp_lt, cmp_le, cmp_gt, cmp_ge, cmp_eqi, cmp_nei, cmp_eqb, cmp_eqs, tru_bl, tru_int, tru_non, tru_tup, tru_lst, tru_frz, ix_tup, len_tup, tpl_tup, lsl_tup, slc_tup, seq_tup, ix_lst, len_lst, tpl_lst, lsl_lst, slc_lst, seq_lst, ix_frz, len_frz, tpl_frz, lsl_frz, slc_frz, seq_frz, len_str, blt_abs, blt_int, blt_intb, blt_max, blt_min, blt_str, blt_all, blt_any, blt_sum, opt_0, opt_1, rng_1, rng_2, atI_0, atI_1, atI_2, atI_3, atI_4, ixN_20, ixN_21, ty_bl_int, ty_bl_bool, ty_bl_str, ty_bl_tuple, ty_bl_list, ht_bl, nn_bl, mu_bl, ty_int_int, ty_int_bool, ty_int_str, ty_int_tuple, ty_int_list, ht_int, nn_int, mu_int, ty_str_int, ty_str_bool, ty_str_str, ty_str_tuple, ty_str_list, ht_str, nn_str, mu_str, ty_tup_int, ty_tup_bool, ty_tup_str, ty_tup_tuple, ty_tup_list, ht_tup, nn_tup, mu_tup, ty_lst_int, ty_lst_bool, ty_lst_str, ty_lst_tuple, ty_lst_list, ht_lst, nn_lst, mu_lst, ty_frz_int, ty_frz_bool, ty_frz_str, ty_frz_tuple, ty_frz_list, ht_frz, nn_frz, mu_frz, ty_non_int, ty_non_bool, ty_non_str, ty_non_tuple, ty_non_list, ht_non, nn_non, mu_non, List.map_cons, List.map_nil, exists_eq_left', decide_eq_true_eq, exists_eq_left, List.length_cons, List.length_nil, Nat.reduceAdd, Int.reduceEq, Int.reduceLT, Int.reduceLE, Int.reduceNeg, decide_true, decide_false, Cl.own.injEq, List.mem_cons, List.not_mem_nil, or_false, forall_eq_or_imp, forall_eq, Option.some.injEq, s_is_integer, fr_is_integer, p_is_integer, s_is_count, fr_is_count, p_is_count, s_check_count, fr_check_count, p_check_count, s_left_over, fr_left_over, p_left_over, s_left_by_turns, fr_left_by_turns, p_left_by_turns, s__law_state, fr__law_state, p__law_state, s__law_take, fr__law_take, p__law_take, s__law_is_whole, fr__law_is_whole, p__law_is_whole, s__law_same_v, fr__law_same_v, p__law_same_v, s__law_same_0, fr__law_same_0, p__law_same_0, s__law_told, fr__law_told, p__law_told, s__law_all_malformed, fr__law_all_malformed, p__law_all_malformed, s__law_great, fr__law_great, p__law_great, s__law_left, fr__law_left, p__law_left, s__law_turns, fr__law_turns, p__law_turns, s_law, fr_law, p_law]
      exact ⟨its, rfl, by simp only [List.length_cons, List.length_nil] at hlen; omega, hits, hp⟩
end Pd.K41

/-! k41: the head. -/
namespace Pd.K41
open L2 PyProof.Rows PySem.Spec PySem
abbrev R : PySem.W.OpenRow := PySem.W.OpenLaw.row PySem.Challenge.rw_radixroads_k41_whole_people_in_a_ring
def loose : List PySem.Str := ["Fault", "Malformed", "Refused", "is_integer", "is_count", "check_count", "MOST_NUMBER", "left_over", "left_by_turns", "_law_state", "_law_take", "_law_is_whole", "_law_same", "_law_told", "_law_all_malformed", "_law_great", "_law_left", "_law_turns"]
theorem run (w : World) : HandSHeadRun.RunEq R (PySem.W.view R.prog [22]) (tx.hook 5) (tx.ob 5) 4000 loose w := by
  intro os
  kernel_rfl
end Pd.K41

namespace Pd.K41
open L2 PyProof.Rows PySem.Spec PySem
theorem g_all : ∀ f ∈ tx.T, Good tx.T tx.ek f := by
  intro f hf
  simp only [tx, List.mem_cons, List.not_mem_nil, or_false] at hf
  rcases hf with rfl | rfl | rfl | rfl | rfl | rfl | rfl | rfl | rfl | rfl | rfl | rfl | rfl | rfl | rfl | rfl
  · exact g_is_integer
  · exact g_is_count
  · exact g_check_count
  · exact g_left_over
  · exact g_left_by_turns
  · exact g__law_state
  · exact g__law_take
  · exact g__law_is_whole
  · exact fun ds P Ex h => h.elim
  · exact g__law_same_0
  · exact g__law_told
  · exact g__law_all_malformed
  · exact g__law_great
  · exact g__law_left
  · exact g__law_turns
  · exact g_law
end Pd.K41
open PySem PySem.W PySem.Calls PyProof.Rows
theorem PySem.Challenge.cw_radixroads_k41_whole_people_in_a_ring_holds : PySem.Challenge.rw_radixroads_k41_whole_people_in_a_ring.Holds := by
  w_on; o_law
  refine HandSHeadRun.head_any (r := OpenLaw.row PySem.Challenge.rw_radixroads_k41_whole_people_in_a_ring) (q := view (OpenLaw.row PySem.Challenge.rw_radixroads_k41_whole_people_in_a_ring).prog [22]) (H := Pd.K41.tx.hook 5) (ob := Pd.K41.tx.ob 5) (M := 4000) (loose := Pd.K41.loose) (d := HandSHeadRun.topDef (OpenLaw.row PySem.Challenge.rw_radixroads_k41_whole_people_in_a_ring).prog 22) (kwd := []) (Pd.K41.tx.ob_eq 5)
    (by kernel_rfl) (fun s => by kernel_rfl) Pd.K41.run (by kernel_rfl) (by kernel_rfl) (by kernel_rfl) (by rfl) (by first | assumption | decide +kernel) (by decide +kernel) ⟨rfl, rfl, rfl, rfl, rfl, by decide +kernel⟩ ?hw ?hc
  case hw => w_witness2
  case hc =>
    refine LamX.walk_ofTsE (l := PySem.Challenge.rw_radixroads_k41_whole_people_in_a_ring) (n := 63) (k := 7) (x := "script") (CX := fun w => L2.CX (PySem.Challenge.rw_radixroads_k41_whole_people_in_a_ring).prog w) rfl (by decide) (by kernel_rfl) ⟨rfl, by decide, by decide⟩ ?F (fun w H s e s' z => Pd.noCX z)
    intro w mg fa h Y G hmg0
    obtain ⟨K, KX, c⟩ := Y
    have hmg : mg ("law" : PySem.Str) = some (.ref fa) := by
      have e : (HandSHeadRun.topDef (OpenLaw.row PySem.Challenge.rw_radixroads_k41_whole_people_in_a_ring).prog 22).name = ("law" : PySem.Str) := by kernel_rfl
      rw [← e]
      exact hmg0
    exact ⟨K, KX, Pd.law_at (t := Pd.K41.tx) (i := 15) KX G c (by decide) Pd.K41.a_all Pd.K41.c_all Pd.K41.g_all (by decide) rfl rfl rfl rfl rfl hmg⟩

