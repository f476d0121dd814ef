import PyProof.Rows.All
import Wide.All
import OpenK.AllK
import Wide.FinOn
import HandS.ForMost
import HandS.Wide
import HandS.IsInst
import HandS.TryMany
import HandS.Exc
import HandS.TryOnly
import HandS.ExcOwn
import HandS.WordsExc
import HandS.CallLocal
import HandS.CallSlots
import HandS.TupAny
import HandS.TupLe
import HandS.TupMul
import HandS.Conv
import HandS.Deep
import HandS.Rev
import HandS.Zip
import HandS.Flow
import HandS.HeadHook2
import HandS.Head2
import HandS.HeadEnd
import HandS.Defaults
import HandS.Style
import HandS.Iter
import PyProof.Draws
import HandS.ExcInit
import HandS.ExcField
import HandS.Codes
import HandS.HeadHook4
import HandS.HeadWalk
import PySem.Challenge.RW_radixroads_k42_whole_numbers_and_bases_o
import HandS.Head4
import HandS.Head3
set_option Elab.async false
set_option linter.all false
set_option maxRecDepth 100000
set_option maxHeartbeats 0
/-! Data without addresses, and what it means that a value stands for a datum in an abstract heap. -/
namespace Pd
open L2 PyProof.Rows PySem.Spec PySem

/-- data: Python's values without addresses; frz: a list that nobody changes -/
inductive D where
  | non
  | bl (b : Bool)
  | int (i : Int)
  | str (s : Str)
  | tup (xs : List D)
  | lst (xs : List D)
  | frz (xs : List D)
  | dk (ks : List Key) (vs : List D)
  | fn (n : Nat)
  | ins (c : Nat) (vs : List D)
  deriving Inhabited

/-- the written world: names of defs and classes by number, fields of classes -/
structure RC where
  K : PySem.W.Frag
  mg : Str → Option Value
  fnm : Nat → Str
  cnm : Nat → Str
  fld : Nat → List Str

mutual
inductive Rep (R : RC) (H : Hp) : V → D → Prop
  | non : Rep R H .non .non
  | bl (b : Bool) : Rep R H (.bl b) (.bl b)
  | int (i : Int) : Rep R H (.int i) (.int i)
  | str (s : Str) : Rep R H (.str s) (.str s)
  | tup {a : Addr} {vs : List V} {ds : List D} : SqT R.K H a vs → Reps R H vs ds → Rep R H (.ref a) (.tup ds)
  | lst {a : Addr} {vs : List V} {ds : List D} : H a = some (.lst vs) → Reps R H vs ds → Rep R H (.ref a) (.lst ds)
  | frz {a : Addr} {vs : List V} {ds : List D} : SqL R.K H a vs → Reps R H vs ds → Rep R H (.ref a) (.frz ds)
  | dk {a : Addr} {kvs : List (Key × V)} {ds : List D} : H a = some (.dK kvs) → Reps R H (kvs.map (·.2)) ds → Rep R H (.ref a) (.dk (kvs.map (·.1)) ds)
  | fn {a : Addr} (n : Nat) : R.mg (R.fnm n) = some (.ref a) → Rep R H (.ref a) (.fn n)
  | ins {a C dx : Addr} {fs : List (Str × V)} {c : Nat} {ds : List D} : H a = some (.ins C dx fs) → R.mg (R.cnm c) = some (.ref C) → fs.map (·.1) = R.fld c →
      Reps R H (fs.map (·.2)) ds → Rep R H (.ref a) (.ins c ds)
inductive Reps (R : RC) (H : Hp) : List V → List D → Prop
  | nil : Reps R H [] []
  | cons {v : V} {d : D} {vs : List V} {ds : List D} : Rep R H v d → Reps R H vs ds → Reps R H (v :: vs) (d :: ds)
end

section
variable {R : RC} {H H' : Hp}
theorem sqT_mono {K : PySem.W.Frag} {a : Addr} {xs : List V} (e : Same H H') (h : SqT K H a xs) : SqT K H' a xs := by
  rcases h with (h | ⟨o, h⟩) | h
  · exact .inl (.inl (e _ _ h))
  · exact .inl (.inr ⟨o, e _ _ h⟩)
  · exact .inr h
mutual
theorem Rep.mono (e : Same H H') : ∀ {v : V} {d : D}, Rep R H v d → Rep R H' v d
  | _, _, .non => .non
  | _, _, .bl b => .bl b
  | _, _, .int i => .int i
  | _, _, .str s => .str s
  | _, _, .tup h r => .tup (sqT_mono e h) (Reps.mono e r)
  | _, _, .lst h r => .lst (e _ _ h) (Reps.mono e r)
  | _, _, .frz h r => .frz (e.seq h) (Reps.mono e r)
  | _, _, .dk h r => .dk (e _ _ h) (Reps.mono e r)
  | _, _, .fn n h => .fn n h
  | _, _, .ins h c f r => .ins (e _ _ h) c f (Reps.mono e r)
theorem Reps.mono (e : Same H H') : ∀ {vs : List V} {ds : List D}, Reps R H vs ds → Reps R H' vs ds
  | _, _, .nil => .nil
  | _, _, .cons r t => .cons (Rep.mono e r) (Reps.mono e t)
end
theorem Reps.length : ∀ {vs : List V} {ds : List D}, Reps R H vs ds → vs.length = ds.length
  | _, _, .nil => rfl
  | _, _, .cons _ t => congrArg (· + 1) (Reps.length t)
theorem Reps.get : ∀ {vs : List V} {ds : List D} {i : Nat} {v : V}, Reps R H vs ds → vs[i]? = some v → ∃ d, ds[i]? = some d ∧ Rep R H v d
  | _, _, 0, _, .cons r _, e => ⟨_, rfl, by cases e; exact r⟩
  | _, _, i + 1, _, .cons _ t, e => Reps.get (i := i) t e
theorem Reps.getD : ∀ {vs : List V} {ds : List D} {i : Nat} {d : D}, Reps R H vs ds → ds[i]? = some d → ∃ v, vs[i]? = some v ∧ Rep R H v d
  | _, _, 0, _, .cons r _, e => ⟨_, rfl, by cases e; exact r⟩
  | _, _, i + 1, _, .cons _ t, e => Reps.getD (i := i) t e
theorem Reps.append : ∀ {vs us : List V} {ds es : List D}, Reps R H vs ds → Reps R H us es → Reps R H (vs ++ us) (ds ++ es)
  | _, _, _, _, .nil, s => s
  | _, _, _, _, .cons r t, s => .cons r (Reps.append t s)
theorem Reps.take : ∀ {vs : List V} {ds : List D} (n : Nat), Reps R H vs ds → Reps R H (vs.take n) (ds.take n)
  | _, _, 0, _ => .nil
  | _, _, _ + 1, .nil => .nil
  | _, _, n + 1, .cons r t => .cons r (Reps.take n t)
theorem Reps.drop : ∀ {vs : List V} {ds : List D} (n : Nat), Reps R H vs ds → Reps R H (vs.drop n) (ds.drop n)
  | _, _, 0, r => r
  | _, _, _ + 1, .nil => .nil
  | _, _, n + 1, .cons _ t => Reps.drop n t
theorem Reps.set {v : V} {d : D} (r : Rep R H v d) : ∀ {vs : List V} {ds : List D} (n : Nat), Reps R H vs ds → Reps R H (vs.set n v) (ds.set n d)
  | _, _, _, .nil => .nil
  | _, _, 0, .cons _ t => .cons r t
  | _, _, n + 1, .cons q t => .cons q (Reps.set r n t)
theorem Reps.reverse : ∀ {vs : List V} {ds : List D}, Reps R H vs ds → Reps R H vs.reverse ds.reverse
  | _, _, .nil => .nil
  | _, _, .cons r t => by
    rw [List.reverse_cons, List.reverse_cons]
    exact (Reps.reverse t).append (.cons r .nil)
theorem Reps.dropLast {vs : List V} {ds : List D} (r : Reps R H vs ds) : Reps R H vs.dropLast ds.dropLast := by
  rw [List.dropLast_eq_take, List.dropLast_eq_take, r.length]
  exact r.take _
theorem Reps.rep {vs : List V} {ds : List D} (r : Reps R H vs ds) : ∀ k : Nat, Reps R H (List.replicate k vs).flatten (List.replicate k ds).flatten
  | 0 => .nil
  | k + 1 => by
    rw [List.replicate_succ, List.replicate_succ, List.flatten_cons, List.flatten_cons]
    exact r.append (Reps.rep r k)
theorem Reps.ints : ∀ {vs : List V} {ns : List Int}, Reps R H vs (ns.map D.int) → vs = ns.map V.int
  | _, [], .nil => rfl
  | _, n :: ns, .cons (.int _) t => congrArg (V.int n :: ·) (Reps.ints t)
theorem Reps.of_ints : ∀ {ns : List Int}, Reps R H (ns.map V.int) (ns.map D.int)
  | [] => .nil
  | n :: _ => .cons (.int n) Reps.of_ints
theorem Reps.strs : ∀ {vs : List V} {ns : List Str}, Reps R H vs (ns.map D.str) → vs = ns.map V.str
  | _, [], .nil => rfl
  | _, n :: ns, .cons (.str _) t => congrArg (V.str n :: ·) (Reps.strs t)
theorem Reps.of_strs : ∀ {ns : List Str}, Reps R H (ns.map V.str) (ns.map D.str)
  | [] => .nil
  | n :: _ => .cons (.str n) Reps.of_strs
theorem Reps.bls : ∀ {vs : List V} {ns : List Bool}, Reps R H vs (ns.map D.bl) → vs = ns.map V.bl
  | _, [], .nil => rfl
  | _, n :: ns, .cons (.bl _) t => congrArg (V.bl n :: ·) (Reps.bls t)
end

/-! ### the cells of a frame -/
abbrev Sg := List (Option V)
/-- a local: nothing known, a datum, or a list (dict) that this local alone holds -/
inductive Cl where
  | emp
  | val (d : D)
  | own (d : D)
  deriving Inhabited
abbrev Loca := List Cl
def at_ : Loca → Nat → Cl
  | [], _ => .emp
  | c :: _, 0 => c
  | _ :: r, i + 1 => at_ r i
def put : Loca → Nat → Cl → Loca
  | [], _, _ => []
  | _ :: r, 0, c => c :: r
  | x :: r, i + 1, c => x :: put r i c
theorem put_eq : ∀ (l : Loca) (i : Nat) (c : Cl), put l i c = l.set i c
  | [], _, _ => rfl
  | _ :: _, 0, _ => rfl
  | x :: r, i + 1, c => congrArg (x :: ·) (put_eq r i c)
theorem at_eq : ∀ (l : Loca) (i : Nat), at_ l i = (l[i]?).getD .emp
  | [], _ => by simp [at_]
  | _ :: _, 0 => by simp [at_]
  | _ :: r, i + 1 => by simpa [at_] using at_eq r i
theorem at_some {l : Loca} {i : Nat} {c : Cl} (h : at_ l i = c) (hc : c ≠ .emp) : l[i]? = some c := by
  rw [at_eq] at h
  cases q : l[i]? with
  | none => rw [q] at h; exact absurd h.symm hc
  | some x => rw [q] at h; exact congrArg some h
theorem at_of {l : Loca} {i : Nat} {c : Cl} (h : l[i]? = some c) : at_ l i = c := by rw [at_eq, h]; rfl
theorem put_len (l : Loca) (i : Nat) (c : Cl) : (put l i c).length = l.length := by rw [put_eq, List.length_set]
theorem set_at {α : Type} {l : List α} {i j : Nat} {c x : α} (h : (l.set i c)[j]? = some x) : (i = j ∧ x = c ∧ i < l.length) ∨ (i ≠ j ∧ l[j]? = some x) := by
  by_cases q : i = j
  · subst q
    by_cases hl : i < l.length
    · rw [List.getElem?_set_self hl] at h
      exact .inl ⟨rfl, (Option.some.inj h).symm, hl⟩
    · rw [List.getElem?_eq_none (by simpa using hl)] at h; cases h
  · rw [List.getElem?_set_ne q] at h
    exact .inr ⟨q, h⟩

/-- the address stands in a local of its own -/
def Own (σ : Sg) (env : Loca) (a : Addr) : Prop := ∃ (i : Nat) (d : D), env[i]? = some (Cl.own d) ∧ σ[i]? = some (some (V.ref a))
open Classical in
/-- the abstract heap without the objects of Z -/
noncomputable def hz (Z : Addr → Prop) (H : Hp) : Hp := fun b => if Z b then none else H b
/-- .. and without the owned objects -/
noncomputable def hid (Z : Addr → Prop) (σ : Sg) (env : Loca) (H : Hp) : Hp := hz (fun b => Z b ∨ Own σ env b) H
section
variable {Z : Addr → Prop} {σ σ' : Sg} {env env' : Loca} {H H' : Hp} {b : Addr} {o : HO}
theorem hz_some {Z : Addr → Prop} {H : Hp} {b : Addr} {o : HO} (h : hz Z H b = some o) : ¬ Z b ∧ H b = some o := by
  unfold hz at h
  split at h
  · cases h
  · rename_i q
    exact ⟨q, h⟩
theorem hid_some (h : hid Z σ env H b = some o) : ¬ Z b ∧ ¬ Own σ env b ∧ H b = some o := by
  unfold hid hz at h
  split at h
  · cases h
  · rename_i q
    exact ⟨fun z => q (.inl z), fun z => q (.inr z), h⟩
theorem hid_of (h1 : ¬ Z b) (h2 : ¬ Own σ env b) (h : H b = some o) : hid Z σ env H b = some o := by
  unfold hid hz
  rw [if_neg (fun q => q.elim h1 h2)]
  exact h
theorem hid_le : Same (hid Z σ env H) H := fun _ _ h => (hid_some h).2.2
end
/-- an owned object's content -/
inductive RepO (R : RC) (H Hh : Hp) (a : Addr) : D → Prop
  | lst {vs : List V} {ds : List D} : H a = some (.lst vs) → Reps R Hh vs ds → RepO R H Hh a (.lst ds)
  | dk {kvs : List (Key × V)} {ds : List D} : H a = some (.dK kvs) → Reps R Hh (kvs.map (·.2)) ds → RepO R H Hh a (.dk (kvs.map (·.1)) ds)
theorem RepO.some {R : RC} {H Hh : Hp} {a : Addr} {d : D} (r : RepO R H Hh a d) : ∃ o, H a = some o := by
  cases r with
  | lst h _ => exact ⟨_, h⟩
  | dk h _ => exact ⟨_, h⟩
theorem RepO.mono {R : RC} {H Hh H' Hh' : Hp} {a : Addr} {d : D} (r : RepO R H Hh a d) (h : H' a = H a) (e : Same Hh Hh') : RepO R H' Hh' a d := by
  cases r with
  | lst q t => exact .lst (h.trans q) (t.mono e)
  | dk q t => exact .dk (h.trans q) (t.mono e)
theorem RepO.rep {R : RC} {H Hh H' : Hp} {a : Addr} {d : D} (r : RepO R H Hh a d) (h : H' a = H a) (e : Same Hh H') : Rep R H' (.ref a) d := by
  cases r with
  | lst q t => exact .lst (h.trans q) (t.mono e)
  | dk q t => exact .dk (h.trans q) (t.mono e)

/-- the frame's locals and the heap bear the cells; io: the parameter that is changed for the caller -/
structure ER (R : RC) (Z : Addr → Prop) (H0 : Hp) (io : Option (Nat × Addr)) (σ : Sg) (H : Hp) (env : Loca) : Prop where
  len : σ.length = env.length
  cell : ∀ (i : Nat) (d : D), env[i]? = some (Cl.val d) → ∃ v : V, σ[i]? = some (some v) ∧ Rep R (hid Z σ env H) v d
  own : ∀ (i : Nat) (d : D), env[i]? = some (Cl.own d) → ∃ a : Addr, σ[i]? = some (some (V.ref a)) ∧ RepO R H (hid Z σ env H) a d
  inj : ∀ (i j : Nat) (d e : D) (a : Addr), env[i]? = some (Cl.own d) → env[j]? = some (Cl.own e) → σ[i]? = some (some (V.ref a)) → σ[j]? = some (some (V.ref a)) → i = j
  old : ∀ b o, H0 b = some o → (∀ p, io ≠ some (p, b)) → H b = some o
  new : ∀ a, Own σ env a → H0 a = none ∨ ∃ p, io = some (p, a)
  zok : ∀ b, Z b → ∃ o, H b = some o
  zown : ∀ a, Own σ env a → Z a → ∃ p, io = some (p, a)
  ios : ∀ (p : Nat) (a : Addr), io = some (p, a) → σ[p]? = some (some (V.ref a)) ∧ ∃ d : D, env[p]? = some (Cl.own d)
/-- all but the owned objects stays; owned are those that were, and new ones -/
structure Mono (σ : Sg) (H : Hp) (env : Loca) (σ' : Sg) (H' : Hp) (env' : Loca) : Prop where
  keep : ∀ b o, H b = some o → ¬ Own σ env b → H' b = some o
  ow : ∀ b, Own σ' env' b → Own σ env b ∨ H b = none
  tr : ∀ b o, H b = some o → ∃ o', H' b = some o'
theorem Mono.free {σ σ' : Sg} {H H' : Hp} {env env' : Loca} (m : Mono σ H env σ' H' env') {p : Addr} (h : H' p = none) : H p = none := by
  cases q : H p with
  | none => rfl
  | some o =>
    obtain ⟨o', e⟩ := m.tr p o q
    rw [h] at e; cases e
theorem Mono.see {Z : Addr → Prop} {σ σ' : Sg} {H H' : Hp} {env env' : Loca} (m : Mono σ H env σ' H' env') : Same (hid Z σ env H) (hid Z σ' env' H') := fun b o h => by
  obtain ⟨a1, a2, a3⟩ := hid_some h
  refine hid_of a1 (fun z => ?_) (m.keep b o a3 a2)
  rcases m.ow b z with q | q
  · exact a2 q
  · rw [q] at a3; cases a3
theorem Mono.refl {σ : Sg} {H : Hp} {env : Loca} : Mono σ H env σ H env := ⟨fun _ _ h _ => h, fun _ h => .inl h, fun _ o h => ⟨o, h⟩⟩
theorem Mono.trans {σ σ' σ'' : Sg} {H H' H'' : Hp} {env env' env'' : Loca} (m : Mono σ H env σ' H' env') (n : Mono σ' H' env' σ'' H'' env'') : Mono σ H env σ'' H'' env'' := by
  refine ⟨fun b o h k => n.keep b o (m.keep b o h k) fun z => ?_, fun b z => ?_, fun b o h => let ⟨o', h'⟩ := m.tr b o h; n.tr b o' h'⟩
  · rcases m.ow b z with q | q
    · exact k q
    · rw [q] at h; cases h
  · rcases n.ow b z with q | q
    · exact m.ow b q
    · by_cases q2 : Own σ env b
      · exact .inl q2
      · cases q3 : H b with
        | none => exact .inr rfl
        | some o =>
          rw [m.keep b o q3 q2] at q; cases q

section
variable {R : RC} {Z : Addr → Prop} {H0 H H' : Hp} {io : Option (Nat × Addr)} {σ : Sg} {env : Loca}
theorem ER.iosH (r : ER R Z H0 io σ H env) {p : Nat} {a : Addr} (h : io = some (p, a)) : ∃ o, H a = some o := by
  obtain ⟨h1, d, h2⟩ := r.ios p a h
  obtain ⟨b, s1, ro⟩ := r.own p d h2
  rw [h1] at s1
  cases s1
  exact ro.some
theorem ER.freshOld (r : ER R Z H0 io σ H env) {p : Addr} (h : H p = none) : H0 p = none := by
  cases q : H0 p with
  | none => rfl
  | some o =>
    by_cases z : ∃ k, io = some (k, p)
    · obtain ⟨k, z⟩ := z
      obtain ⟨o', h'⟩ := r.iosH z
      rw [h] at h'; cases h'
    · have := r.old p o q fun k e => z ⟨k, e⟩
      rw [h] at this; cases this
theorem ER.fresh (r : ER R Z H0 io σ H env) {p : Addr} (h : H p = none) : ¬ Z p ∧ ¬ Own σ env p := by
  refine ⟨fun z => ?_, fun ⟨i, d, e1, e2⟩ => ?_⟩
  · obtain ⟨o, ho⟩ := r.zok p z
    rw [h] at ho; cases ho
  · obtain ⟨a, s1, ro⟩ := r.own i d e1
    rw [e2] at s1; cases s1
    obtain ⟨o, ho⟩ := ro.some
    rw [h] at ho; cases ho
/-- the heap grows -/
theorem ER.grow (r : ER R Z H0 io σ H env) (e : Same H H') : ER R Z H0 io σ H' env := by
  have hs : Same (hid Z σ env H) (hid Z σ env H') := fun b o h => let ⟨a1, a2, a3⟩ := hid_some h; hid_of a1 a2 (e _ _ a3)
  refine ⟨r.len, fun i d h => ?_, fun i d h => ?_, r.inj, fun b o h k => e _ _ (r.old b o h k), r.new, fun b z => let ⟨o, q⟩ := r.zok b z; ⟨o, e _ _ q⟩, r.zown, r.ios⟩
  · obtain ⟨v, s, q⟩ := r.cell i d h
    exact ⟨v, s, q.mono hs⟩
  · obtain ⟨a, s, q⟩ := r.own i d h
    obtain ⟨o, ho⟩ := q.some
    exact ⟨a, s, q.mono ((e _ _ ho).trans ho.symm) hs⟩
theorem mono_grow (e : Same H H') : Mono σ H env σ H' env := ⟨fun b o h _ => e b o h, fun _ h => .inl h, fun b o h => ⟨o, e b o h⟩⟩
theorem see_grow (e : Same H H') : Same (hid Z σ env H) (hid Z σ env H') := (mono_grow e).see
theorem same_new {p : Addr} {o : HO} (h : H p = none) : Same H (upd H p o) := fun b x e => by
  rw [upd_ne (ne_of_none e h)]
  exact e
/-- a new object is to be seen -/
theorem ER.seen (r : ER R Z H0 io σ H env) {p : Addr} {o : HO} (h : H p = none) : hid Z σ env (upd H p o) p = some o :=
  hid_of (r.fresh h).1 (r.fresh h).2 upd_same
theorem own_put {i : Nat} {c : Cl} {x : Option V} {a : Addr} (hc : ∀ d, c ≠ Cl.own d) (h : Own (σ.set i x) (env.set i c) a) : Own σ env a := by
  obtain ⟨j, d, e1, e2⟩ := h
  rcases set_at e1 with ⟨_, q, _⟩ | ⟨q, e1⟩
  · exact absurd q.symm (hc d)
  · rw [List.getElem?_set_ne q] at e2
    exact ⟨j, d, e1, e2⟩
theorem hid_put {i : Nat} {c : Cl} {x : Option V} (hc : ∀ d, c ≠ Cl.own d) : Same (hid Z σ env H) (hid Z (σ.set i x) (env.set i c) H) := fun b o h =>
  let ⟨a1, a2, a3⟩ := hid_some h
  hid_of a1 (fun z => a2 (own_put hc z)) a3
/-- a local is set: to a datum, or to nothing known -/
theorem ER.putC (r : ER R Z H0 io σ H env) {i : Nat} {x : Option V} {c : Cl} (hc : ∀ d, c ≠ Cl.own d) (hv : ∀ d, c = Cl.val d → ∃ v, x = some v ∧ Rep R (hid Z σ env H) v d) (hi : ∀ a, io ≠ some (i, a)) :
    ER R Z H0 io (σ.set i x) H (env.set i c) := by
  have hs : Same (hid Z σ env H) (hid Z (σ.set i x) (env.set i c) H) := hid_put hc
  refine ⟨by simp [r.len], fun j e h => ?_, fun j e h => ?_, fun j k e f a h1 h2 h3 h4 => ?_, r.old, fun a h => r.new a (own_put hc h), r.zok, fun a h z => r.zown a (own_put hc h) z, fun p a h => ?_⟩
  · rcases set_at h with ⟨rfl, q, hl⟩ | ⟨q, h⟩
    · obtain ⟨v, hx, hr⟩ := hv e q.symm
      exact ⟨v, by rw [List.getElem?_set_self (by rw [r.len]; exact hl), hx], hr.mono hs⟩
    · rw [List.getElem?_set_ne q]
      obtain ⟨u, s, q⟩ := r.cell j e h
      exact ⟨u, s, q.mono hs⟩
  · rcases set_at h with ⟨_, q, _⟩ | ⟨q, h⟩
    · exact absurd q.symm (hc e)
    · rw [List.getElem?_set_ne q]
      obtain ⟨u, s, q⟩ := r.own j e h
      exact ⟨u, s, q.mono rfl hs⟩
  · rcases set_at h1 with ⟨_, q, _⟩ | ⟨q1, h1⟩
    · exact absurd q.symm (hc e)
    · rcases set_at h2 with ⟨_, q, _⟩ | ⟨q2, h2⟩
      · exact absurd q.symm (hc f)
      · rw [List.getElem?_set_ne q1] at h3
        rw [List.getElem?_set_ne q2] at h4
        exact r.inj j k e f a h1 h2 h3 h4
  · obtain ⟨h1, d, h2⟩ := r.ios p a h
    have q : i ≠ p := fun q => hi a (by rw [q]; exact h)
    exact ⟨by rw [List.getElem?_set_ne q]; exact h1, d, by rw [List.getElem?_set_ne q]; exact h2⟩
theorem ER.put (r : ER R Z H0 io σ H env) {i : Nat} {v : V} {d : D} (hv : Rep R (hid Z σ env H) v d) (hi : ∀ a, io ≠ some (i, a)) :
    ER R Z H0 io (σ.set i (some v)) H (put env i (.val d)) ∧ Mono σ H env (σ.set i (some v)) H (Pd.put env i (.val d)) := by
  rw [put_eq]
  exact ⟨r.putC (fun _ z => by cases z) (fun e q => by cases q; exact ⟨v, rfl, hv⟩) hi, fun _ _ h _ => h, fun _ h => .inl (own_put (fun _ z => by cases z) h), fun _ o h => ⟨o, h⟩⟩
/-- an object that nothing refers to -/
abbrev zx (Z : Addr → Prop) (p : Addr) : Addr → Prop := fun b => Z b ∨ b = p
theorem hid_zx {σ : Sg} {env : Loca} {H : Hp} {p : Addr} : Same (hid (zx Z p) σ env H) (hid Z σ env H) := fun b o h =>
  let ⟨a1, a2, a3⟩ := hid_some h
  hid_of (fun z => a1 (.inl z)) a2 a3
/-- a new object is hidden -/
theorem ER.hide (r : ER R Z H0 io σ H env) {p : Addr} {Hb : Hp} {o : HO} (hp : H p = none) (e : Same H Hb) (ho : Hb p = some o) : ER R (zx Z p) H0 io σ Hb env ∧ Same (hid Z σ env H) (hid (zx Z p) σ env Hb) := by
  have hs : Same (hid Z σ env H) (hid (zx Z p) σ env Hb) := fun b u h => by
    obtain ⟨a1, a2, a3⟩ := hid_some h
    refine hid_of (fun z => ?_) a2 (e _ _ a3)
    rcases z with z | rfl
    · exact a1 z
    · rw [hp] at a3; cases a3
  refine ⟨⟨r.len, fun i d h => ?_, fun i d h => ?_, r.inj, fun b o h k => e _ _ (r.old b o h k), r.new, fun b z => ?_, fun a h z => ?_, r.ios⟩, hs⟩
  · obtain ⟨v, s, q⟩ := r.cell i d h
    exact ⟨v, s, q.mono hs⟩
  · obtain ⟨a, s, q⟩ := r.own i d h
    obtain ⟨u, hu⟩ := q.some
    exact ⟨a, s, q.mono ((e _ _ hu).trans hu.symm) hs⟩
  · rcases z with z | rfl
    · obtain ⟨u, q⟩ := r.zok b z
      exact ⟨u, e _ _ q⟩
    · exact ⟨o, ho⟩
  · rcases z with z | rfl
    · exact r.zown a h z
    · exact absurd h (r.fresh hp).2
/-- a hidden object becomes a local's own -/
theorem ER.putHid {p : Addr} (r : ER R (zx Z p) H0 io σ H env) {i : Nat} {d : D} (hn : ¬ Z p) (h0 : H0 p = none) (nio : ∀ k, io ≠ some (k, p)) (hi : ∀ a, io ≠ some (i, a)) (ho : RepO R H (hid (zx Z p) σ env H) p d) :
    ER R Z H0 io (σ.set i (some (.ref p))) H (Pd.put env i (.own d)) := by
  rw [put_eq]
  have np : ¬ Own σ env p := fun z => let ⟨k, q⟩ := r.zown p z (.inr rfl); nio k q
  have own1 : ∀ a, Own (σ.set i (some (.ref p))) (env.set i (.own d)) a → a = p ∨ Own σ env a := fun a ⟨j, f, e1, e2⟩ => by
    rcases set_at e2 with ⟨_, q, _⟩ | ⟨q, e2⟩
    · cases q; exact .inl rfl
    · rw [List.getElem?_set_ne q] at e1
      exact .inr ⟨j, f, e1, e2⟩
  have hs : Same (hid (zx Z p) σ env H) (hid Z (σ.set i (some (.ref p))) (env.set i (.own d)) H) := fun b o h => by
    obtain ⟨a1, a2, a3⟩ := hid_some h
    refine hid_of (fun z => a1 (.inl z)) (fun z => ?_) a3
    rcases own1 b z with rfl | z
    · exact a1 (.inr rfl)
    · exact a2 z
  have npo : ∀ (j : Nat) (f : D), env[j]? = some (Cl.own f) → σ[j]? ≠ some (some (V.ref p)) := fun j f h z => np ⟨j, f, h, z⟩
  refine ⟨by simp [r.len], fun j f h => ?_, fun j f h => ?_, fun j k f g a h1 h2 h3 h4 => ?_, r.old, fun a h => ?_, fun b z => r.zok b (.inl z), fun a h z => ?_, fun q a h => ?_⟩
  · rcases set_at h with ⟨_, q, _⟩ | ⟨q, h⟩
    · cases q
    · rw [List.getElem?_set_ne q]
      obtain ⟨u, s, q⟩ := r.cell j f h
      exact ⟨u, s, q.mono hs⟩
  · rcases set_at h with ⟨rfl, q, hl⟩ | ⟨q, h⟩
    · cases q
      exact ⟨p, List.getElem?_set_self (by rw [r.len]; exact hl), ho.mono rfl hs⟩
    · rw [List.getElem?_set_ne q]
      obtain ⟨u, s, q⟩ := r.own j f h
      exact ⟨u, s, q.mono rfl hs⟩
  · rcases set_at h1 with ⟨q1, _, hl⟩ | ⟨q1, h1⟩
    · rcases set_at h2 with ⟨q2, _, _⟩ | ⟨q2, h2⟩
      · rw [← q1, ← q2]
      · subst q1
        rw [List.getElem?_set_ne q2] at h4
        rw [List.getElem?_set_self (by rw [r.len]; exact hl)] at h3
        cases h3
        exact absurd h4 (npo k g h2)
    · rw [List.getElem?_set_ne q1] at h3
      rcases set_at h2 with ⟨q2, _, hl⟩ | ⟨q2, h2⟩
      · subst q2
        rw [List.getElem?_set_self (by rw [r.len]; exact hl)] at h4
        cases h4
        exact absurd h3 (npo j f h1)
      · rw [List.getElem?_set_ne q2] at h4
        exact r.inj j k f g a h1 h2 h3 h4
  · rcases own1 a h with rfl | h
    · exact .inl h0
    · exact r.new a h
  · rcases own1 a h with rfl | h
    · exact absurd z hn
    · exact r.zown a h (.inl z)
  · obtain ⟨h1, f, h2⟩ := r.ios q a h
    have ne : i ≠ q := fun z => hi a (by rw [z]; exact h)
    exact ⟨by rw [List.getElem?_set_ne ne]; exact h1, f, by rw [List.getElem?_set_ne ne]; exact h2⟩
theorem Mono.putHid {σ' : Sg} {H' : Hp} {env' : Loca} (m : Mono σ H env σ' H' env') {p : Addr} {i : Nat} {d : D} (hp : H p = none) : Mono σ H env (σ'.set i (some (.ref p))) H' (Pd.put env' i (.own d)) := by
  rw [put_eq]
  refine ⟨m.keep, fun b ⟨j, f, e1, e2⟩ => ?_, m.tr⟩
  rcases set_at e2 with ⟨_, q, _⟩ | ⟨q, e2⟩
  · cases q; exact .inr hp
  · rw [List.getElem?_set_ne q] at e1
    exact m.ow b ⟨j, f, e1, e2⟩
/-- what is known of a new list that nothing refers to -/
structure Fri (R : RC) (Z : Addr → Prop) (H0 : Hp) (io : Option (Nat × Addr)) (Hs : Hp) (σ : Sg) (H : Hp) (env : Loca) (p : Addr) (d : D) : Prop where
  hs : Hs p = none
  er : ER R (zx Z p) H0 io σ H env
  nz : ¬ Z p
  h0 : H0 p = none
  nio : ∀ k, io ≠ some (k, p)
  cont : RepO R H (hid (zx Z p) σ env H) p d
/-- a list (or dict) just laid -/
theorem Fri.mk' (r : ER R Z H0 io σ H env) {p : Addr} {Hb : Hp} {d : D} {o : HO} (hp : H p = none) (e : Same H Hb) (ho : Hb p = some o) (hc : ∀ Hh, Same (hid Z σ env H) Hh → RepO R Hb Hh p d) : Fri R Z H0 io H σ Hb env p d := by
  obtain ⟨r', hs⟩ := r.hide hp e ho
  refine ⟨hp, r', (r.fresh hp).1, r.freshOld hp, fun k q => ?_, hc _ hs⟩
  obtain ⟨u, hu⟩ := r.iosH q
  rw [hp] at hu; cases hu
theorem Fri.start {Hs Hs' : Hp} {p : Addr} {d : D} (f : Fri R Z H0 io Hs σ H env p d) (h : Hs' p = none) : Fri R Z H0 io Hs' σ H env p d := ⟨h, f.er, f.nz, f.h0, f.nio, f.cont⟩
/-- a local's own list is one among others from now on -/
theorem ER.release (r : ER R Z H0 io σ H env) {i : Nat} {d : D} (h : env[i]? = some (.own d)) (hi : ∀ a, io ≠ some (i, a)) :
    ER R Z H0 io σ H (Pd.put env i (.val d)) ∧ Mono σ H env σ H (Pd.put env i (.val d)) ∧ ∃ a : Addr, σ[i]? = some (some (V.ref a)) ∧ Rep R (hid Z σ (Pd.put env i (.val d)) H) (.ref a) d := by
  rw [put_eq]
  obtain ⟨a, s1, ro⟩ := r.own i d h
  have hil : i < env.length := (List.getElem?_eq_some_iff.mp h).1
  have own1 : ∀ b, Own σ (env.set i (.val d)) b → Own σ env b ∧ b ≠ a := fun b ⟨j, f, e1, e2⟩ => by
    rcases set_at e1 with ⟨_, q, _⟩ | ⟨q, e1⟩
    · cases q
    · refine ⟨⟨j, f, e1, e2⟩, fun z => ?_⟩
      subst z
      exact q (r.inj i j d f b h e1 s1 e2)
  have hs : Same (hid Z σ env H) (hid Z σ (env.set i (.val d)) H) := fun b o hb => by
    obtain ⟨a1, a2, a3⟩ := hid_some hb
    exact hid_of a1 (fun z => a2 (own1 b z).1) a3
  have hz : ¬ Z a := fun z => by
    obtain ⟨p, q⟩ := r.zown a ⟨i, d, h, s1⟩ z
    obtain ⟨e1, f, e2⟩ := r.ios p a q
    have := r.inj i p d f a h e2 s1 e1
    exact hi a (by rw [this]; exact q)
  have hrep : Rep R (hid Z σ (env.set i (.val d)) H) (.ref a) d := by
    cases ro with
    | lst q t => exact .lst (hid_of hz (fun z => (own1 a z).2 rfl) q) (t.mono hs)
    | dk q t => exact .dk (hid_of hz (fun z => (own1 a z).2 rfl) q) (t.mono hs)
  refine ⟨⟨by simp [r.len], fun j f e => ?_, fun j f e => ?_, fun j k f g b h1 h2 h3 h4 => ?_, r.old, fun b hb => r.new b (own1 b hb).1, r.zok, fun b hb z => r.zown b (own1 b hb).1 z, fun p b e => ?_⟩, ⟨fun _ _ h _ => h, fun b hb => .inl (own1 b hb).1, fun _ o h => ⟨o, h⟩⟩, a, s1, hrep⟩
  · rcases set_at e with ⟨rfl, q, _⟩ | ⟨q, e⟩
    · cases q
      exact ⟨_, s1, hrep⟩
    · obtain ⟨u, s, q⟩ := r.cell j f e
      exact ⟨u, s, q.mono hs⟩
  · rcases set_at e with ⟨_, q, _⟩ | ⟨q, e⟩
    · cases q
    · obtain ⟨u, s, q⟩ := r.own j f e
      exact ⟨u, s, q.mono rfl hs⟩
  · rcases set_at h1 with ⟨_, q, _⟩ | ⟨_, h1⟩
    · cases q
    · rcases set_at h2 with ⟨_, q, _⟩ | ⟨_, h2⟩
      · cases q
      · exact r.inj j k f g b h1 h2 h3 h4
  · obtain ⟨h1, f, h2⟩ := r.ios p b e
    exact ⟨h1, f, by rw [List.getElem?_set_ne fun q => hi b (by rw [q]; exact e)]; exact h2⟩
/-- an owned list is changed in its place -/
theorem ER.change (r : ER R Z H0 io σ H env) {i : Nat} {d d' : D} {a : Addr} (h : env[i]? = some (.own d)) (hs : σ[i]? = some (some (.ref a))) (hk : ∀ b o, b ≠ a → H b = some o → H' b = some o) (hr : RepO R H' (hid Z σ env H') a d') :
    ER R Z H0 io σ H' (Pd.put env i (.own d')) ∧ Mono σ H env σ H' (Pd.put env i (.own d')) := by
  rw [put_eq]
  have hil : i < env.length := (List.getElem?_eq_some_iff.mp h).1
  have oa : Own σ env a := ⟨i, d, h, hs⟩
  have own1 : ∀ b, Own σ (env.set i (.own d')) b → Own σ env b := fun b ⟨j, f, e1, e2⟩ => by
    rcases set_at e1 with ⟨rfl, _, _⟩ | ⟨_, e1⟩
    · exact ⟨i, d, h, e2⟩
    · exact ⟨j, f, e1, e2⟩
  have hm : Mono σ H env σ H' (env.set i (.own d')) := ⟨fun b u hb k => hk b u (fun z => k (by rw [z]; exact oa)) hb, fun b hb => .inl (own1 b hb), fun b u hb => by
    by_cases q : b = a
    · rw [q]; exact hr.some
    · exact ⟨u, hk b u q hb⟩⟩
  have hh : Same (hid Z σ env H') (hid Z σ (env.set i (.own d')) H') := fun b u hb => by
    obtain ⟨a1, a2, a3⟩ := hid_some hb
    exact hid_of a1 (fun z => a2 (own1 b z)) a3
  refine ⟨⟨by simp [r.len], fun j f e => ?_, fun j f e => ?_, fun j k f g b h1 h2 h3 h4 => ?_, fun b u e k => ?_, fun b hb => r.new b (own1 b hb), fun b z => ?_, fun b hb z => r.zown b (own1 b hb) z, fun p b e => ?_⟩, hm⟩
  · rcases set_at e with ⟨_, q, _⟩ | ⟨q, e⟩
    · cases q
    · obtain ⟨u, s, q⟩ := r.cell j f e
      exact ⟨u, s, q.mono hm.see⟩
  · rcases set_at e with ⟨rfl, q, _⟩ | ⟨q, e⟩
    · cases q
      exact ⟨a, hs, hr.mono rfl hh⟩
    · obtain ⟨u, s, z⟩ := r.own j f e
      have ne : u ≠ a := fun w => q (r.inj i j d f u h e (w ▸ hs) s)
      obtain ⟨o, ho⟩ := z.some
      exact ⟨u, s, z.mono ((hk u o ne ho).trans ho.symm) hm.see⟩
  · have w1 : ∃ f', env[j]? = some (.own f') := by
      rcases set_at h1 with ⟨rfl, _, _⟩ | ⟨_, h1⟩
      · exact ⟨d, h⟩
      · exact ⟨f, h1⟩
    have w2 : ∃ f', env[k]? = some (.own f') := by
      rcases set_at h2 with ⟨rfl, _, _⟩ | ⟨_, h2⟩
      · exact ⟨d, h⟩
      · exact ⟨g, h2⟩
    obtain ⟨f', w1⟩ := w1
    obtain ⟨g', w2⟩ := w2
    exact r.inj j k f' g' b w1 w2 h3 h4
  · refine hk b u (fun z => ?_) (r.old b u e k)
    subst z
    rcases r.new b oa with q | ⟨p, q⟩
    · rw [q] at e; cases e
    · exact k p q
  · by_cases q : b = a
    · rw [q]
      exact hr.some
    · obtain ⟨u, hu⟩ := r.zok b z
      exact ⟨u, hk b u q hu⟩
  · obtain ⟨h1, f, h2⟩ := r.ios p b e
    refine ⟨h1, ?_⟩
    by_cases q : i = p
    · subst q
      exact ⟨d', List.getElem?_set_self hil⟩
    · exact ⟨f, by rw [List.getElem?_set_ne q]; exact h2⟩
end
end Pd

/-! tuple * int, any count. -/
namespace Pd
open L2 PyProof.Rows PySem.Spec PySem
theorem tupMul_same (l : Addr) (items : Array Value) (n : Nat) (dd : Option Addr) (sl : Array (Option Value)) (x : Int) (u : Tok) (c0 : (decide (x < -(2 ^ 63)) || decide (x ≥ 2 ^ 63)) = false) (c1 : (items.isEmpty || x == 1) = true) :
    Meets (Builtin.«tuple.__mul__» ⟨[.ref l, .int x u], []⟩) (fun _ R s => s.heap.get? l = some { cls := .type "tuple", dict := dd, data := .seq items n, slots := sl } ∧ R (.ok (.ret (Value.ref l))) s) :=
  .of_wp fun prog w A R s h => by
    obtain ⟨hp, g, d, tk, os⟩ := s
    obtain ⟨hl, h⟩ := h
    have f1 := AutoSeq1.idx_int
    wp_walk using AutoSeq1.wpAny_loadPart' hl
    repeat (first
      | (refine wpAny_ite_false (decide_eq_false (by rw [c0]; exact Bool.false_ne_true)) ?_; wp_walk using AutoSeq1.wpAny_loadPart' hl)
      | (refine wpAny_ite_true (decide_eq_true (by rw [c1])) ?_; wp_walk using AutoSeq1.wpAny_loadPart' hl))
    exact ⟨_, rfl, h⟩
theorem tupMul_none (l : Addr) (items : Array Value) (n : Nat) (dd : Option Addr) (sl : Array (Option Value)) (x : Int) (u : Tok) (c0 : (decide (x < -(2 ^ 63)) || decide (x ≥ 2 ^ 63)) = false) (c1 : (items.isEmpty || x == 1) = false) (c2 : (decide (x ≤ 0) || items.isEmpty) = true) :
    Meets (Builtin.«tuple.__mul__» ⟨[.ref l, .int x u], []⟩) (fun _ R s => s.heap.get? l = some { cls := .type "tuple", dict := dd, data := .seq items n, slots := sl } ∧
      R (.ok (.ret (Value.ref s.heap.objs.size))) { s with heap := s.heap.push { cls := Value.type "tuple", data := Data.seq #[] }, toks := s.toks }) :=
  .of_wp fun prog w A R s h => by
    obtain ⟨hp, g, d, tk, os⟩ := s
    obtain ⟨hl, h⟩ := h
    have f1 := AutoSeq1.idx_int
    wp_walk using AutoSeq1.wpAny_loadPart' hl
    repeat (first
      | (refine wpAny_ite_false (decide_eq_false (by rw [c0]; exact Bool.false_ne_true)) ?_; wp_walk using AutoSeq1.wpAny_loadPart' hl)
      | (refine wpAny_ite_false (decide_eq_false (by rw [c1]; exact Bool.false_ne_true)) ?_; wp_walk using AutoSeq1.wpAny_loadPart' hl)
      | (refine wpAny_ite_true (decide_eq_true (by rw [c2])) ?_; wp_walk using AutoSeq1.wpAny_loadPart' hl))
    exact ⟨_, rfl, h⟩
def rRepTA (K : PySem.W.Frag) : R2 := fun x y H Q => ∃ l k xs, x = .ref l ∧ y = .int k ∧ SqT K H l xs ∧ -(2 ^ 63) ≤ k ∧ k < 2 ^ 63 ∧ xs.length * k.toNat ≤ 1000000 ∧ ((xs = [] ∨ k = 1) → Q (.ref l) H) ∧
  (xs ≠ [] → k ≠ 1 → ∀ p, H p = none → Q (.ref p) (upd H p (.tup (List.replicate k.toNat xs).flatten)))
theorem op_repTA {X : Cx} : OpR X (binaryOp .Mult) (rRepTA X.K) := by
  intro pins s σ H x y v u Q I rx ry h
  obtain ⟨l, k, xs, rfl, rfl, hT, h1, h2, hz, q1, q2⟩ := h
  cases rx
  obtain ⟨t, rfl⟩ := ry
  obtain ⟨its, r, ⟨⟨cls, dd, data, sl⟩, ho, hc, n, hd⟩, hs⟩ := I.tuple hT
  simp only at hc hd
  subst hc hd
  have hle : its.length = xs.length := r.length.symm
  have c0 : (decide (k < -(2 ^ 63)) || decide (k ≥ 2 ^ 63)) = false := by
    rw [decide_eq_false (by omega), decide_eq_false (by omega)]
    rfl
  by_cases hsame : xs = [] ∨ k = 1
  · have c1 : (its.toArray.isEmpty || k == 1) = true := by
      rcases hsame with e | e
      · subst e
        have : its = [] := List.eq_nil_of_length_eq_zero hle
        subst this
        rfl
      · subst e
        simp
    refine wpAny_binaryOp_repeat_ref (T := "tuple") (U := "int") (by decide) ⟨_, ho, rfl⟩ (fun s' => typeIs_int s' k t) noFill_tuple_mul F.fills_int_mul F.slot_int_rmul repeat_tuple F.slot_int_index.lookup
      (call_meets F.slot_int_rmul (typeIs_int s k t) F.entry_int_rmul (F.args_int_rmul_2 _ _) (int_rmul_tuple k t l its.toArray n dd sl)
        ⟨ho, rfl, ⟨_, ho, rfl⟩, call_meets F.slot_tuple_mul ⟨_, ho, rfl⟩ F.entry_tuple_mul (F.args_tuple_mul_2 _ _) (tupMul_same l its.toArray n dd sl k t c0 c1) ⟨ho, ?_⟩⟩)
    exact ⟨.ref l, H, I, rfl, q1 hsame⟩
  · have hx : xs ≠ [] := fun e => hsame (.inl e)
    have hk : k ≠ 1 := fun e => hsame (.inr e)
    have hn : its ≠ [] := fun e => hx (by
      rw [e] at hle
      exact List.eq_nil_of_length_eq_zero hle.symm)
    have hi : its.toArray.isEmpty = false := by
      cases its with
      | nil => exact absurd rfl hn
      | cons a b => rfl
    have c1 : (its.toArray.isEmpty || k == 1) = false := by
      rw [hi, Bool.false_or]
      exact beq_eq_false_iff_ne.mpr hk
    by_cases h0 : k ≤ 0
    · have c2 : (decide (k ≤ 0) || its.toArray.isEmpty) = true := by
        rw [decide_eq_true h0]
        rfl
      refine wpAny_binaryOp_repeat_ref (T := "tuple") (U := "int") (by decide) ⟨_, ho, rfl⟩ (fun s' => typeIs_int s' k t) noFill_tuple_mul F.fills_int_mul F.slot_int_rmul repeat_tuple F.slot_int_index.lookup
        (call_meets F.slot_int_rmul (typeIs_int s k t) F.entry_int_rmul (F.args_int_rmul_2 _ _) (int_rmul_tuple k t l its.toArray n dd sl)
          ⟨ho, rfl, ⟨_, ho, rfl⟩, call_meets F.slot_tuple_mul ⟨_, ho, rfl⟩ F.entry_tuple_mul (F.args_tuple_mul_2 _ _) (tupMul_none l its.toArray n dd sl k t c0 c1 c2) ⟨ho, ?_⟩⟩)
      have e0 : (List.replicate k.toNat xs).flatten = [] := by
        rw [show k.toNat = 0 by omega]
        rfl
      have q := q2 hx hk
      rw [e0] at q
      refine ⟨.ref s.heap.objs.size, _, I.laid (t' := s.toks) (o := .tup []) (fun b ob q => Heap.get?_push_of_some _ q) (Nat.le_refl _) ?_, rfl, q _ (I.hok.fresh (Nat.le_refl _))⟩
      exact ⟨by show 0 ≤ sizeLine; omega, [], .nil, IsTup.new _ _⟩
    · have hsz0 : its.toArray.size = xs.length := by rw [List.size_toArray, hle]
      have hm : ((its.toArray.size : Nat) : Int) * k ≤ 1000000 := by
        rw [hsz0]
        have e : ((xs.length : Nat) : Int) * k = ((xs.length * k.toNat : Nat) : Int) := by
          rw [Int.natCast_mul, Int.toNat_of_nonneg (by omega)]
        rw [e]
        omega
      have flen : (List.replicate k.toNat its).flatten.length ≤ sizeLine := by
        rw [PyProof.Rows.lm_len_rep_flat, hle, sizeLine_eq, Nat.mul_comm]
        omega
      have c2 : (decide (k ≤ 0) || its.toArray.isEmpty) = false := by
        rw [hi, Bool.or_false]
        exact decide_eq_false h0
      have c4 : Builtin.Tuple.tupleTooMany (((its.toArray.size : Nat) : Int) * k) = false := by
        unfold Builtin.Tuple.tupleTooMany
        rw [sizeLine_eq]
        exact decide_eq_false (by omega)
      refine wpAny_binaryOp_repeat_ref (T := "tuple") (U := "int") (by decide) ⟨_, ho, rfl⟩ (fun s' => typeIs_int s' k t) noFill_tuple_mul F.fills_int_mul F.slot_int_rmul repeat_tuple F.slot_int_index.lookup
        (call_meets F.slot_int_rmul (typeIs_int s k t) F.entry_int_rmul (F.args_int_rmul_2 _ _) (int_rmul_tuple k t l its.toArray n dd sl)
          ⟨ho, rfl, ⟨_, ho, rfl⟩, call_meets F.slot_tuple_mul ⟨_, ho, rfl⟩ F.entry_tuple_mul (F.args_tuple_mul_2 _ _) (tuple_mulW l its.toArray n dd sl k t c0 c1 c2 (by omega) c4 (by rw [size_rep, List.size_toArray]; exact flen)) ⟨ho, ?_⟩⟩)
      rw [size_rep]
      refine ⟨.ref s.heap.objs.size, _, I.laid (t' := s.toks) (o := .tup (List.replicate k.toNat xs).flatten) (fun b ob q => Heap.get?_push_of_some _ q) (Nat.le_refl _) ?_, rfl, q2 hx hk _ (I.hok.fresh (Nat.le_refl _))⟩
      exact ⟨by rw [PyProof.Rows.lm_len_rep_flat, sizeLine_eq, Nat.mul_comm]; omega, _, r.rep k.toNat, IsTup.new _ _⟩
end Pd

/-! Short syntax; what it asks (weakest preconditions over data); that a Python term is said by it. -/
namespace Pd
open L2 PyProof.Rows PySem.Spec PySem

inductive BO | add | sub | mul | fdiv | mod
  deriving DecidableEq
inductive CO | eq | ne | lt | le | gt | ge | in_ | nin
  deriving DecidableEq
inductive BF | len | abs | max | min | int | str | tuple | list | sum | all | any | sorted | bool
  deriving DecidableEq
inductive TyN | int | bool | str | tuple | list
  deriving DecidableEq
inductive MF | join | count | index
  deriving DecidableEq
/-- exceptions of the program -/
inductive Exn
  | mal
  | ref (r : Str)
  | nt (i : Int)
/-- kinds of except clauses -/
inductive EK | mal | ref | nt
  deriving DecidableEq
def Exn.kind : Exn → EK
  | .mal => .mal
  | .ref _ => .ref
  | .nt _ => .nt
def Exn.field : Exn → D
  | .mal => .non
  | .ref r => .str r
  | .nt i => .int i

/-- expressions, lists of them, tests, what a for walks: one type -/
inductive E
  | nil | cons (e es : E)
  | var (i : Nat) | int (i : Int) | bl (b : Bool) | non | str (s : Str) | fnv (n : Nat) | gint (x : Str) (i : Int)
  | bin (o : BO) (a b : E) | neg (a : E) | not (a : E)
  | cmp (o : CO) (a b : E) | chn (o o' : CO) (a b c : E) | isn (a : E) | ntn (a : E)
  | and (es : E) | or (es : E) | ite (c a b : E) | tst (e : E)
  | tup (es : E) | lst (es : E)
  | call (n : Nat) (es : E) | cio (n i : Nat) (es : E) | clv (i : Nat) (es : E)
  | blt (f : BF) (es : E) | isi (a : E) (T : TyN)
  | ix (a b : E) | slc (a lo hi : E) | rev (a : E)
  | rng (es : E) | lrng (es : E) | seq (e : E)
  | zip (es : E) | enm (es : E) | sow (i : Nat)
  | lc (is : List Nat) (tp : Bool) (it c elt : E)
  | met (m : MF) (o : E) (es : E)

/-- how many a list of expressions has -/
def lnE : E → Nat
  | .cons _ es => lnE es + 1
  | _ => 0
/-- an operand: a datum, or a local that holds a list of its own, read when it is used -/
inductive Op
  | dat (d : D)
  | slot (i : Nat)
def isOwnL : Cl → Bool
  | .own (.lst _) => true
  | _ => false
def isOwn : Cl → Bool
  | .own _ => true
  | _ => false
def Cl.datum : Cl → D
  | .val d => d
  | .own d => d
  | .emp => .ins 0 []
def Op.rd (o : Op) (env : Loca) : D := match o with
  | .dat d => d
  | .slot i => (at_ env i).datum

/-! ### what operators ask -/
def DivOk (i j : Int) : Prop := (j ≠ 0 ∧ j.natAbs < 1073741824) ∨ (0 < j ∧ j.natAbs.log2 < 9000)
def MulOk (i j : Int) : Prop := CMul i j ∨ CMulW i j
def wBin : BO → D → D → (D → Prop) → Prop
  | .add, .int i, .int j, k => k (.int (i + j))
  | .sub, .int i, .int j, k => k (.int (i - j))
  | .mul, .int i, .int j, k => MulOk i j ∧ k (.int (i * j))
  | .fdiv, .int i, .int j, k => DivOk i j ∧ k (.int (i.fdiv j))
  | .mod, .int i, .int j, k => j ≠ 0 ∧ k (.int (i.fmod j))
  | .add, .str i, .str j, k => i.length + j.length ≤ sizeLine ∧ k (.str (i ++ j))
  | .add, .tup xs, .tup ys, k => xs.length + ys.length ≤ sizeLine ∧ k (.tup (xs ++ ys))
  | .add, .lst xs, .lst ys, k => xs.length + ys.length ≤ sizeLine ∧ k (.lst (xs ++ ys))
  | .mul, .lst xs, .int n, k => -(2 ^ 63) ≤ n ∧ n < 2 ^ 63 ∧ xs.length * n.toNat ≤ sizeLine ∧ k (.lst (List.replicate n.toNat xs).flatten)
  | .mul, .tup xs, .int n, k => -(2 ^ 63) ≤ n ∧ n < 2 ^ 63 ∧ xs.length * n.toNat ≤ 1000000 ∧ k (.tup (List.replicate n.toNat xs).flatten)
  | _, _, _, _ => False
def wTru : D → (Bool → Prop) → Prop
  | .bl b, k => k b
  | .int i, k => k (i != 0)
  | .non, k => k false
  | .str s, k => s.length ≤ sizeLine ∧ k (s.length != 0)
  | .tup xs, k => k (!xs.isEmpty)
  | .lst xs, k => k (!xs.isEmpty)
  | .frz xs, k => k (!xs.isEmpty)
  | _, _ => False
mutual
def pD : D → PyData
  | .non => .none
  | .bl b => .bool b
  | .int i => .int i
  | .str s => .str s
  | .tup xs => .tuple (pDs xs)
  | .lst xs => .list (pDs xs)
  | .frz xs => .list (pDs xs)
  | .dk _ _ => .none
  | .fn _ => .none
  | .ins _ _ => .none
def pDs : List D → List PyData
  | [] => []
  | x :: xs => pD x :: pDs xs
end
mutual
def okD : D → Bool
  | .non => true
  | .bl _ => true
  | .int _ => true
  | .str s => PyData.strOk s
  | .tup xs => okDs xs
  | .lst xs => okDs xs
  | .frz xs => okDs xs
  | .dk _ _ => false
  | .fn _ => false
  | .ins _ _ => false
def okDs : List D → Bool
  | [] => true
  | x :: xs => okD x && okDs xs
end
mutual
def depD : D → Nat
  | .tup xs => depDs xs + 1
  | .lst xs => depDs xs + 1
  | .frz xs => depDs xs + 1
  | .non | .bl _ | .int _ | .str _ | .dk _ _ | .fn _ | .ins _ _ => 0
def depDs : List D → Nat
  | [] => 0
  | x :: xs => max (depD x) (depDs xs)
end
mutual
def eqD : D → D → Bool
  | .non, .non => true
  | .bl a, .bl b => a == b
  | .bl a, .int j => (if a then 1 else 0) == j
  | .int i, .bl b => i == (if b then 1 else 0)
  | .int i, .int j => i == j
  | .str x, .str y => x == y
  | .tup xs, .tup ys => eqDs xs ys
  | .lst xs, .lst ys => eqDs xs ys
  | .lst xs, .frz ys => eqDs xs ys
  | .frz xs, .lst ys => eqDs xs ys
  | .frz xs, .frz ys => eqDs xs ys
  | _, _ => false
def eqDs : List D → List D → Bool
  | [], [] => true
  | x :: xs, y :: ys => eqD x y && eqDs xs ys
  | _, _ => false
end
/-- == is known of such data -/
def EqOk (d : D) : Prop := okD d = true ∧ depD d ≤ 64
def sclD : D → Bool
  | .non | .bl _ | .int _ | .str _ => true
  | _ => false
def lexI : List Int → List Int → Bool := HT.lexLt
/-- the ints of a row, if they are ints -/
def intsD : List D → Option (List Int)
  | [] => some []
  | .int i :: r => (intsD r).map (i :: ·)
  | _ => none
def strsD : List D → Option (List Str)
  | [] => some []
  | .str i :: r => (strsD r).map (i :: ·)
  | _ => none
def blsD : List D → Option (List Bool)
  | [] => some []
  | .bl i :: r => (blsD r).map (i :: ·)
  | _ => none
def seqD : D → Option (List D)
  | .tup xs => some xs
  | .lst xs => some xs
  | .frz xs => some xs
  | _ => none
def wCmp : CO → D → D → (Bool → Prop) → Prop
  | .eq, d, e, k => ((sclD d = true ∧ sclD e = true) ∨ (EqOk d ∧ EqOk e)) ∧ k (eqD d e)
  | .ne, d, e, k => ((sclD d = true ∧ sclD e = true) ∨ (EqOk d ∧ EqOk e)) ∧ k (!eqD d e)
  | .lt, .int i, .int j, k => k (decide (i < j))
  | .le, .int i, .int j, k => k (decide (i ≤ j))
  | .gt, .int i, .int j, k => k (decide (j < i))
  | .ge, .int i, .int j, k => k (decide (j ≤ i))
  | .lt, .tup xs, .tup ys, k => ∃ ns ms, intsD xs = some ns ∧ intsD ys = some ms ∧ k (HT.lexLt ns ms)
  | .in_, d, e, k => ∃ ds, seqD e = some ds ∧ ((sclD d = true ∧ ds.all sclD = true) ∨ (okD d = true ∧ depD d ≤ 62 ∧ okDs ds = true)) ∧ k (ds.any fun y => eqD y d)
  | .nin, d, e, k => ∃ ds, seqD e = some ds ∧ ((sclD d = true ∧ ds.all sclD = true) ∨ (okD d = true ∧ depD d ≤ 62 ∧ okDs ds = true)) ∧ k (!ds.any fun y => eqD y d)
  | _, _, _, _ => False
def cutD (xs : List D) (lo hi : Option Int) : List D := (xs.drop (HT.sIx xs.length 0 lo)).take (HT.sIx xs.length xs.length hi - HT.sIx xs.length 0 lo)
def wIx : D → D → (D → Prop) → Prop
  | .tup xs, .int i, k => ∃ d, atI xs i = some d ∧ k d
  | .lst xs, .int i, k => ∃ d, atI xs i = some d ∧ k d
  | .frz xs, .int i, k => ∃ d, atI xs i = some d ∧ k d
  | .str z, .int i, k => z.length ≤ sizeLine ∧ ∃ c, atI z.cps.toList i = some c ∧ k (.str ⟨#[c]⟩)
  | _, _, _ => False
def wSlc : D → Option Int → Option Int → (D → Prop) → Prop
  | .tup xs, lo, hi, k => k (.tup (cutD xs lo hi))
  | .lst xs, lo, hi, k => k (.lst (cutD xs lo hi))
  | .frz xs, lo, hi, k => k (.lst (cutD xs lo hi))
  | _, _, _, _ => False
def wOpt : List D → (Option Int → Prop) → Prop
  | [], k => k none
  | [.int i], k => k (some i)
  | _, _ => False
def tyIs : D → TyN → Bool
  | .bl _, .bool => true
  | .bl _, .int => true
  | .int _, .int => true
  | .str _, .str => true
  | .tup _, .tuple => true
  | .lst _, .list => true
  | .frz _, .list => true
  | _, _ => false
def isNonD : D → Bool
  | .non => true
  | _ => false
def hasTy : D → Bool
  | .frz _ => false
  | .fn _ => false
  | .ins _ _ => false
  | _ => true
def rngD (lo hi : Int) : List D := (List.range (hi - lo).toNat).map fun i => D.int (lo + (i : Nat))
def RgB (i : Int) : Prop := -(2 ^ 62) ≤ i ∧ i < 2 ^ 62
/-- the ends of a range -/
def rngE : List D → Option (Int × Int)
  | [.int n] => some (0, n)
  | [.int i, .int j] => some (i, j)
  | _ => none
/-- two lists, or two tuples -/
def zipD : List D → Option (List D × List D)
  | [.tup xs, .tup ys] => some (xs, ys)
  | [.lst xs, .lst ys] => some (xs, ys)
  | [.lst xs, .frz ys] => some (xs, ys)
  | [.frz xs, .lst ys] => some (xs, ys)
  | [.frz xs, .frz ys] => some (xs, ys)
  | _ => none
def zipT (xs ys : List D) : List D := List.zipWith (fun x y => D.tup [x, y]) xs ys
def enmD : List D → Option (List D)
  | [d] => seqD d
  | _ => none
def enmT : Nat → List D → List D
  | _, [] => []
  | n, d :: ds => .tup [.int (n : Nat), d] :: enmT (n + 1) ds
/-! ### built-ins of data -/
abbrev Wb := List D → (D → Prop) → Prop
def wLen1 : D → (D → Prop) → Prop
  | .tup xs, k => k (.int xs.length)
  | .lst xs, k => k (.int xs.length)
  | .frz xs, k => k (.int xs.length)
  | .str s, k => s.length ≤ sizeLine ∧ k (.int s.length)
  | _, _ => False
def one1 (f : D → (D → Prop) → Prop) : Wb
  | [d], k => f d k
  | _, _ => False
def wAbs1 : D → (D → Prop) → Prop
  | .int i, k => k (.int (if i < 0 then -i else i))
  | _, _ => False
def wMax : Wb
  | [.int i, .int j], k => k (.int (if j > i then j else i))
  | [.lst xs], k => ∃ ns, intsD xs = some ns ∧ 0 < ns.length ∧ ∀ m, m ∈ ns → (∀ y ∈ ns, y ≤ m) → k (.int m)
  | _, _ => False
def wMin : Wb
  | [.int i, .int j], k => k (.int (if j < i then j else i))
  | [.lst xs], k => ∃ ns, intsD xs = some ns ∧ 0 < ns.length ∧ ∀ m, m ∈ ns → (∀ y ∈ ns, m ≤ y) → k (.int m)
  | _, _ => False
def wInt1 : D → (D → Prop) → Prop
  | .int i, k => k (.int i)
  | .bl b, k => k (.int (if b then 1 else 0))
  | _, _ => False
def wBool1 : D → (D → Prop) → Prop
  | .int i, k => k (.bl (i != 0))
  | .bl b, k => k (.bl b)
  | _, _ => False
def wStr1 : D → (D → Prop) → Prop
  | .int i, k => i.natAbs.log2 < 1920 ∧ k (.str (toString i))
  | _, _ => False
def wTuple1 : D → (D → Prop) → Prop
  | .tup xs, k => k (.tup xs)
  | .lst xs, k => k (.tup xs)
  | .frz xs, k => k (.tup xs)
  | _, _ => False
def wList1 : D → (D → Prop) → Prop
  | .tup xs, k => k (.lst xs)
  | .lst xs, k => k (.lst xs)
  | .frz xs, k => k (.lst xs)
  | _, _ => False
def wSum1 : D → (D → Prop) → Prop
  | .lst xs, k => ∃ ns, intsD xs = some ns ∧ k (.int ns.sum)
  | _, _ => False
def wAll1 : D → (D → Prop) → Prop
  | .lst xs, k => ∃ bs, blsD xs = some bs ∧ k (.bl (bs.all id))
  | _, _ => False
def wAny1 : D → (D → Prop) → Prop
  | .lst xs, k => ∃ bs, blsD xs = some bs ∧ k (.bl (bs.any id))
  | _, _ => False
def wBlt : BF → Wb
  | .len => one1 wLen1
  | .abs => one1 wAbs1
  | .max => wMax
  | .min => wMin
  | .int => one1 wInt1
  | .bool => one1 wBool1
  | .str => one1 wStr1
  | .tuple => one1 wTuple1
  | .list => one1 wList1
  | .sum => one1 wSum1
  | .all => one1 wAll1
  | .any => one1 wAny1
  | .sorted => fun _ _ => False
def wMet : MF → D → List D → (D → Prop) → Prop
  | .join, .str a, [.lst xs], k => ∃ ys, strsD xs = some ys ∧ (ys.map (·.length)).sum + ys.length * a.length ≤ 16777216 ∧ k (.str (Txt.join a ys))
  | _, _, _, _ => False

/-! ### tables -/
abbrev Spec := List D → (D → D → Prop) → (Exn → Prop) → Prop
/-- of each def by its number: does it change its first argument, is its list a new one, how deep does it call -/
structure Tb where
  fnm : Nat → Str
  io : Nat → Bool
  fr : Nat → Bool
  lv : Nat → Nat
  ek : EK → Bool
  ri : EK → Bool
structure Gx where
  tb : Tb
  sp : Nat → Spec
  k : Nat
  iop : Option Nat

def isMut : D → Bool
  | .lst _ => true
  | .dk _ _ => true
  | _ => false
def frB : BO → Bool
  | .add => true
  | .mul => true
  | _ => false
def frF : BF → Bool
  | .list => true
  | .sorted => true
  | _ => false
/-- a new list, known by nobody else -/
def frE (T : Tb) : E → Bool
  | .lst _ => true
  | .lc .. => true
  | .lrng _ => true
  | .blt f _ => frF f
  | .bin o _ _ => frB o
  | .slc .. => true
  | .rev _ => true
  | .call n _ => T.fr n
  | _ => false

abbrev Wf := Loca → (D → Loca → Prop) → (Exn → Loca → Prop) → Prop
/-- an operand that is only looked at -/
def pk (a : E) (f : Wf) (env : Loca) (Q : Op → Loca → Prop) (X : Exn → Loca → Prop) : Prop := match a with
  | .var i => match at_ env i with
    | .val d => Q (.dat d) env
    | .own _ => Q (.slot i) env
    | .emp => False
  | _ => f env (fun d env' => Q (.dat d) env') X
def putAll : Loca → List Nat → List D → Loca
  | env, i :: is, d :: ds => putAll (put env i (.val d)) is ds
  | env, _, _ => env
/-- the target of a comprehension or loop -/
def wTgt (is : List Nat) (tp : Bool) (d : D) (env : Loca) (Q : Loca → Prop) : Prop := match tp, is, d with
  | false, [i], d => Q (put env i (.val d))
  | true, is, .tup ds => ds.length = is.length ∧ Q (putAll env is ds)
  | _, _, _ => False
def wipeC : Loca → List Nat → Loca
  | env, [] => env
  | env, i :: is => put (wipeC env is) i .emp
/-- behind a comprehension its names are what they were -/
def backC (env0 : Loca) : Loca → List Nat → Loca
  | env, [] => env
  | env, i :: is => put (backC env0 env is) i (at_ env0 i)
def lcLoop (turn : D → Loca → (Option D → Loca → Prop) → Prop) : List D → List D → Loca → (List D → Loca → Prop) → Prop
  | [], acc, env, Q => Q acc env
  | d :: ds, acc, env, Q => turn d env fun r env' => match r with
    | some y => acc.length < sizeLine ∧ lcLoop turn ds (acc ++ [y]) env' Q
    | none => lcLoop turn ds acc env' Q

/-- a list of its own that a comprehension walks must stay as it is -/
def kpN (it : E) (is : List Nat) : Prop := match it with
  | .sow i => i ∉ is
  | _ => True
def kpE (it : E) (env env' : Loca) : Prop := match it with
  | .sow i => at_ env' i = at_ env i
  | _ => True
def noSow : E → Bool
  | .sow _ => false
  | _ => true

mutual
def wE (G : Gx) : E → Wf
  | .var i, env, Q, _ => match at_ env i with
    | .val d => Q d env
    | .own d => G.iop ≠ some i ∧ Q d (put env i (.val d))
    | .emp => False
  | .int i, env, Q, _ => Q (.int i) env
  | .bl b, env, Q, _ => Q (.bl b) env
  | .non, env, Q, _ => Q .non env
  | .str s, env, Q, _ => Q (.str s) env
  | .fnv n, env, Q, _ => Q (.fn n) env
  | .gint _ i, env, Q, _ => Q (.int i) env
  | .bin o a b, env, Q, X => pk a (wE G a) env (fun x env1 => pk b (wE G b) env1 (fun y env2 => wBin o (x.rd env2) (y.rd env2) fun d => Q d env2) X) X
  | .neg a, env, Q, X => wE G a env (fun d env1 => match d with
    | .int i => Q (.int (-i)) env1
    | _ => False) X
  | .not a, env, Q, X => wE G a env (fun d env1 => match d with
    | .bl b => Q (.bl (!b)) env1
    | _ => False) X
  | .cmp o a b, env, Q, X => pk a (wE G a) env (fun x env1 => pk b (wE G b) env1 (fun y env2 => wCmp o (x.rd env2) (y.rd env2) fun c => Q (.bl c) env2) X) X
  | .chn o o' a b c, env, Q, X => wE G a env (fun x env1 => wE G b env1 (fun y env2 => wCmp o x y fun r => if r = true then wE G c env2 (fun z env3 => wCmp o' y z fun r' => Q (.bl r') env3) X else Q (.bl false) env2) X) X
  | .isn a, env, Q, X => wE G a env (fun d env1 => Q (.bl (isNonD d)) env1) X
  | .ntn a, env, Q, X => wE G a env (fun d env1 => Q (.bl (!isNonD d)) env1) X
  | .and es, env, Q, X => wAnd G es env Q X
  | .or es, env, Q, X => wOr G es env Q X
  | .ite c a b, env, Q, X => wT G c env (fun t env1 => if t = true then wE G a env1 Q X else wE G b env1 Q X) X
  | .tup es, env, Q, X => wA G es env (fun ds env1 => Q (.tup ds) env1) X
  | .lst es, env, Q, X => wA G es env (fun ds env1 => Q (.lst ds) env1) X
  | .call n es, env, Q, X => wA G es env (fun ds env1 => G.sp n ds (fun d _ => Q d env1) fun x => X x env1) X
  | .cio n i es, env, Q, X => isOwn (at_ env i) = true ∧ wA G es env (fun ds env1 => match at_ env1 i with
    | .own d0 => G.sp n (d0 :: ds) (fun d d1 => Q d (put env1 i (.own d1))) fun _ => False
    | _ => False) X
  | .clv i es, env, Q, X => ∃ n, at_ env i = .val (.fn n) ∧ G.tb.lv n < G.k ∧ G.tb.io n = false ∧ wA G es env (fun ds env1 => G.sp n ds (fun d _ => Q d env1) fun x => X x env1) X
  | .blt f es, env, Q, X => wP G es env (fun xs env1 => wBlt f (xs.map fun x => x.rd env1) fun d => Q d env1) X
  | .isi a T, env, Q, X => pk a (wE G a) env (fun x env1 => hasTy (x.rd env1) = true ∧ Q (.bl (tyIs (x.rd env1) T)) env1) X
  | .ix a b, env, Q, X => pk a (wE G a) env (fun x env1 => wE G b env1 (fun y env2 => wIx (x.rd env2) y fun d => Q d env2) X) X
  | .slc a lo hi, env, Q, X => pk a (wE G a) env (fun x env1 => wA G lo env1 (fun l env2 => wOpt l fun i => wA G hi env2 (fun h env3 => wOpt h fun j => wSlc (x.rd env3) i j fun d => Q d env3) X) X) X
  | .rev a, env, Q, X => pk a (wE G a) env (fun x env1 => match x.rd env1 with
    | .lst xs => Q (.lst xs.reverse) env1
    | .frz xs => Q (.lst xs.reverse) env1
    | .tup xs => Q (.tup xs.reverse) env1
    | _ => False) X
  | .lrng es, env, Q, X => wA G es env (fun ds env1 => ∃ p, rngE ds = some p ∧ RgOk p.1 p.2 ∧ Q (.lst (rngD p.1 p.2)) env1) X
  | .lc is tp it c elt, env, Q, X => wI G it env (fun ds env1 =>
      kpN it is ∧ (∀ i ∈ is, ∀ d, at_ env1 i ≠ .own d) ∧ (∀ i ∈ is, G.iop ≠ some i) ∧
      lcLoop (fun d envt k => kpE it env1 (wipeC envt is) ∧ wTgt is tp d (wipeC envt is) fun env2 =>
        wC G c env2 fun r env3 => if r = true then wE G elt env3 (fun y env4 => k (some y) env4) (fun _ _ => False) else k none env3) ds [] env1
        fun out envf => kpE it env1 (wipeC envf is) ∧ Q (.lst out) (backC env1 (wipeC envf is) is)) X
  | .met m o es, env, Q, X => wE G o env (fun d env1 => wP G es env1 (fun xs env2 => wMet m d (xs.map fun x => x.rd env2) fun d => Q d env2) X) X
  | .nil, _, _, _ => False
  | .cons _ _, _, _, _ => False
  | .tst _, _, _, _ => False
  | .rng _, _, _, _ => False
  | .seq _, _, _, _ => False
  | .zip _, _, _, _ => False
  | .enm _, _, _, _ => False
  | .sow _, _, _, _ => False
/-- a list of expressions -/
def wA (G : Gx) : E → Loca → (List D → Loca → Prop) → (Exn → Loca → Prop) → Prop
  | .nil, env, Q, _ => Q [] env
  | .cons e es, env, Q, X => wE G e env (fun d env1 => wA G es env1 (fun ds env2 => Q (d :: ds) env2) X) X
  | _, _, _, _ => False
/-- .. that are only looked at -/
def wP (G : Gx) : E → Loca → (List Op → Loca → Prop) → (Exn → Loca → Prop) → Prop
  | .nil, env, Q, _ => Q [] env
  | .cons e es, env, Q, X => pk e (wE G e) env (fun x env1 => wP G es env1 (fun xs env2 => Q (x :: xs) env2) X) X
  | _, _, _, _ => False
def wAnd (G : Gx) : E → Wf
  | .cons e es, env, Q, X => match es with
    | .nil => wE G e env Q X
    | es => wE G e env (fun d env1 => match d with
      | .bl b => if b = true then wAnd G es env1 Q X else Q (.bl false) env1
      | _ => False) X
  | _, _, _, _ => False
def wOr (G : Gx) : E → Wf
  | .cons e es, env, Q, X => match es with
    | .nil => wE G e env Q X
    | es => wE G e env (fun d env1 => match d with
      | .bl b => if b = true then Q (.bl true) env1 else wOr G es env1 Q X
      | _ => False) X
  | _, _, _, _ => False
/-- a test -/
def wT (G : Gx) : E → Loca → (Bool → Loca → Prop) → (Exn → Loca → Prop) → Prop
  | .tst e, env, Q, X => pk e (wE G e) env (fun x env1 => wTru (x.rd env1) fun b => Q b env1) X
  | .not a, env, Q, X => wT G a env (fun b env1 => Q (!b) env1) X
  | .and es, env, Q, X => wTA G es env Q X
  | .or es, env, Q, X => wTO G es env Q X
  | _, _, _, _ => False
def wTA (G : Gx) : E → Loca → (Bool → Loca → Prop) → (Exn → Loca → Prop) → Prop
  | .nil, env, Q, _ => Q true env
  | .cons t ts, env, Q, X => wT G t env (fun b env1 => if b = true then wTA G ts env1 Q X else Q false env1) X
  | _, _, _, _ => False
def wTO (G : Gx) : E → Loca → (Bool → Loca → Prop) → (Exn → Loca → Prop) → Prop
  | .nil, env, Q, _ => Q false env
  | .cons t ts, env, Q, X => wT G t env (fun b env1 => if b = true then Q true env1 else wTO G ts env1 Q X) X
  | _, _, _, _ => False
/-- what is walked -/
def wI (G : Gx) : E → Loca → (List D → Loca → Prop) → (Exn → Loca → Prop) → Prop
  | .rng es, env, Q, X => wA G es env (fun ds env1 => ∃ p, rngE ds = some p ∧ RgB p.1 ∧ RgB p.2 ∧ Q (rngD p.1 p.2) env1) X
  | .seq e, env, Q, X => wE G e env (fun d env1 => ∃ ds, seqD d = some ds ∧ Q ds env1) X
  | .zip es, env, Q, X => wA G es env (fun ds env1 => ∃ p, zipD ds = some p ∧ Q (zipT p.1 p.2) env1) X
  | .enm es, env, Q, X => wA G es env (fun ds env1 => ∃ p, enmD ds = some p ∧ Q (enmT 0 p) env1) X
  | .sow i, env, Q, _ => match at_ env i with
    | .val d => ∃ ds, seqD d = some ds ∧ Q ds env
    | .own (.lst ds) => Q ds env
    | _ => False
  | _, _, _, _ => False
/-- the test of a comprehension: none or one -/
def wC (G : Gx) : E → Loca → (Bool → Loca → Prop) → Prop
  | .nil, env, Q => Q true env
  | .tst e, env, Q => pk e (wE G e) env (fun x env1 => wTru (x.rd env1) fun b => Q b env1) fun _ _ => False
  | _, _, _ => False
end

/-! ### statements -/
inductive S
  | nil | seq (s r : S)
  | expr (e : E) | asg (i : Nat) (e : E) | asgl (i : Nat) (e : E)
  | unp (is : List Nat) (e : E) | par (is : List Nat) (es : E)
  | app (i : Nat) (e : E) | seti (i : Nat) (a e : E)
  | ret (e : E) | retn
  | ife (c : E) (a b : S) | whl (c : E) (b : S) | for_ (is : List Nat) (tp : Bool) (it : E) (b : S)
  | brk | cnt
  | rmal (m : Str)
  | rexc (k : EK) (e : E)
  | tr (b hs : S) | hnd (k : EK) (sl : Option Nat) (e : E) (r : S)
structure Po where
  nx : Loca → Prop
  rt : D → Bool → Loca → Prop
  bk : Loca → Prop
  ct : Loca → Prop
  ex : Exn → Loca → Prop
/-- what is known grows less -/
inductive WkC : Cl → Cl → Prop
  | refl (c : Cl) : WkC c c
  | emp (c : Cl) : WkC c .emp
  | rel (d : D) : WkC (.own d) (.val d)
def Weak (iop : Option Nat) (env env' : Loca) : Prop := env'.length = env.length ∧ ∀ (i : Nat) (c c' : Cl), env[i]? = some c → env'[i]? = some c' → WkC c c' ∧ (iop = some i → c = c')
theorem Weak.refl (iop : Option Nat) (env : Loca) : Weak iop env env := ⟨rfl, fun i c c' h h' => by
  rw [h] at h'; cases h'; exact ⟨.refl c, fun _ => rfl⟩⟩
def cellOf (T : Tb) (e : E) (d : D) : Cl := if (frE T e && isMut d) = true then .own d else .val d
def putCs : Loca → List Nat → List Cl → Loca
  | env, i :: is, d :: ds => putCs (put env i d) is ds
  | env, _, _ => env
/-- arguments with what their locals will be -/
def forLoop (iop : Option Nat) (turn : D → Loca → Po → Prop) : List D → Loca → Po → Prop
  | [], env, P => P.nx env
  | d :: ds, env, P => turn d env { P with
      nx := fun env' => ∃ env'', Weak iop env' env'' ∧ forLoop iop turn ds env'' P,
      ct := fun env' => ∃ env'', Weak iop env' env'' ∧ forLoop iop turn ds env'' P,
      bk := P.nx }
def wCs (G : Gx) : E → Loca → (List Cl → Loca → Prop) → (Exn → Loca → Prop) → Prop
  | .nil, env, Q, _ => Q [] env
  | .cons e es, env, Q, X => wE G e env (fun d env1 => wCs G es env1 (fun ds env2 => Q (cellOf G.tb e d :: ds) env2) X) X
  | _, _, _, _ => False
/-- a suite of an except clause hands back a constant tuple, or one with the error's field: sl's slot -/
def wHnd (G : Gx) : S → Exn → Loca → Po → Prop
  | .hnd k sl e r, x, env, P => if k = x.kind then (match sl, e with
      | none, .tup (.cons (.str a) (.cons .non .nil)) => P.rt (.tup [.str a, .non]) false env
      | none, .tup (.cons (.str a) (.cons (.str b) .nil)) => P.rt (.tup [.str a, .str b]) false env
      | some i, .tup (.cons (.str a) .nil) => i < env.length ∧ G.iop ≠ some i ∧ P.rt (.tup [.str a, x.field]) false env
      | _, _ => False) else wHnd G r x env P
  | .nil, x, env, P => P.ex x env
  | _, _, _, _ => False
/-- a value handed back: a new list, if it is this def's own -/
def wRet (G : Gx) (e : E) (env : Loca) (P : Po) : Prop := match e with
  | .var i => match at_ env i with
    | .val d => P.rt d false env
    | .own d => G.iop ≠ some i ∧ P.rt d true env
    | .emp => False
  | e => wE G e env (fun d env1 => P.rt d (frE G.tb e) env1) P.ex
def wS (G : Gx) : S → Loca → Po → Prop
  | .nil, env, P => P.nx env
  | .seq s r, env, P => wS G s env { P with nx := fun env1 => wS G r env1 P }
  | .expr e, env, P => wE G e env (fun _ env1 => P.nx env1) P.ex
  | .asg i e, env, P => wE G e env (fun d env1 => G.iop ≠ some i ∧ P.nx (put env1 i (cellOf G.tb e d))) P.ex
  | .asgl i e, env, P => wE G e env (fun d env1 => G.iop ≠ some i ∧ P.nx (put env1 i (cellOf G.tb e d))) P.ex
  | .unp is e, env, P => wE G e env (fun d env1 => (∀ i ∈ is, G.iop ≠ some i) ∧ ∃ ds, d = .tup ds ∧ ds.length = is.length ∧ P.nx (putAll env1 is ds)) P.ex
  | .par is es, env, P => wCs G es env (fun cs env1 => (∀ i ∈ is, G.iop ≠ some i) ∧ P.nx (putCs env1 is cs)) P.ex
  | .app i e, env, P => isOwnL (at_ env i) = true ∧ wE G e env (fun d env1 => match at_ env1 i with
    | .own (.lst xs) => xs.length < sizeLine ∧ P.nx (put env1 i (.own (.lst (xs ++ [d]))))
    | _ => False) P.ex
  | .seti i a e, env, P => wE G e env (fun d env1 => isOwnL (at_ env1 i) = true ∧ wE G a env1 (fun j env2 => match at_ env2 i, j with
    | .own (.lst xs), .int k => ∃ n, ixN xs.length k = some n ∧ P.nx (put env2 i (.own (.lst (xs.set n d))))
    | _, _ => False) P.ex) P.ex
  | .ret e, env, P => wRet G e env P
  | .retn, env, P => P.rt .non false env
  | .ife c a b, env, P => wT G c env (fun t env1 => if t = true then wS G a env1 P else wS G b env1 P) P.ex
  | .whl c b, env, P => ∃ I : Nat → Loca → Prop, (∃ n env', Weak G.iop env env' ∧ I n env') ∧ ∀ n env, I n env → wT G c env (fun t env1 => if t = true then wS G b env1 { P with
      nx := fun env' => ∃ env'' m, Weak G.iop env' env'' ∧ m < n ∧ I m env'',
      ct := fun env' => ∃ env'' m, Weak G.iop env' env'' ∧ m < n ∧ I m env'',
      bk := P.nx } else P.nx env1) P.ex
  | .for_ is tp it b, env, P => wI G it env (fun ds env1 => (∀ i ∈ is, G.iop ≠ some i) ∧ forLoop G.iop (fun d env2 P' => wTgt is tp d env2 fun env3 => wS G b env3 P') ds env1 P) P.ex
  | .brk, env, P => P.bk env
  | .cnt, env, P => P.ct env
  | .rmal _, env, P => P.ex .mal env
  | .rexc k e, env, P => wE G e env (fun d env1 => match k, d with
    | .ref, .str r => P.ex (.ref r) env1
    | .nt, .int i => P.ex (.nt i) env1
    | _, _ => False) P.ex
  | .tr b hs, env, P => wS G b env { P with ex := fun x env1 => wHnd G hs x env1 P }
  | .hnd .., _, _ => False
end Pd

/-! What the operators and built-ins of data mean in the machine: by values. -/
namespace Pd
open L2 PyProof.Rows PySem.Spec PySem

/-- a value to be looked at: it stands for the datum, or it is a local's own list -/
inductive PRep (R : RC) (H Hh : Hp) : V → D → Prop
  | rep {v : V} {d : D} : Rep R Hh v d → PRep R H Hh v d
  | own {a : Addr} {d : D} : RepO R H Hh a d → PRep R H Hh (.ref a) d
  | junk {v : V} : PRep R H Hh v (.ins 0 [])
section
variable {R : RC} {H Hh : Hp} (le : Same Hh H)
include le
theorem PRep.lst {v : V} {ds : List D} (p : PRep R H Hh v (.lst ds)) : ∃ a vs, v = .ref a ∧ H a = some (.lst vs) ∧ Reps R Hh vs ds := by
  cases p with
  | rep r => cases r with
    | lst h t => exact ⟨_, _, rfl, le _ _ h, t⟩
  | own r => cases r with
    | lst h t => exact ⟨_, _, rfl, h, t⟩
theorem PRep.frz {v : V} {ds : List D} (p : PRep R H Hh v (.frz ds)) : ∃ a vs, v = .ref a ∧ SqL R.K H a vs ∧ Reps R Hh vs ds := by
  cases p with
  | rep r => cases r with
    | frz h t => exact ⟨_, _, rfl, le.seq h, t⟩
  | own r => cases r
theorem PRep.tup {v : V} {ds : List D} (p : PRep R H Hh v (.tup ds)) : ∃ a vs, v = .ref a ∧ SqT R.K H a vs ∧ Reps R Hh vs ds := by
  cases p with
  | rep r => cases r with
    | tup h t => exact ⟨_, _, rfl, sqT_mono le h, t⟩
  | own r => cases r
omit le in
theorem PRep.int {v : V} {i : Int} (p : PRep R H Hh v (.int i)) : v = .int i := by
  cases p with
  | rep r => cases r; rfl
  | own r => cases r
omit le in
theorem PRep.bl {v : V} {i : Bool} (p : PRep R H Hh v (.bl i)) : v = .bl i := by
  cases p with
  | rep r => cases r; rfl
  | own r => cases r
omit le in
theorem PRep.str {v : V} {i : Str} (p : PRep R H Hh v (.str i)) : v = .str i := by
  cases p with
  | rep r => cases r; rfl
  | own r => cases r
omit le in
theorem PRep.non {v : V} (p : PRep R H Hh v .non) : v = .non := by
  cases p with
  | rep r => cases r; rfl
  | own r => cases r
/-- what such a value is, in the full heap -/
theorem PRep.full {v : V} {d : D} (p : PRep R H Hh v d) (hj : ∀ vs, d ≠ .ins 0 vs) : Rep R H v d := by
  cases p with
  | rep r => exact r.mono le
  | own r => exact r.rep rfl le
  | junk => exact absurd rfl (hj _)
end

/-! ### rules by values: several kinds of operands -/
section
variable {X : Cx}
def rEmp : R2 := fun _ _ _ _ => False
theorem op_emp {f : Value → Value → Sem Value} : OpR X f rEmp := fun _ _ _ _ _ _ _ _ _ _ _ _ h => h.elim
abbrev rI1 (g : Int → Int → V) : R2 := rI0 g
def rStrCat : R2 := fun x y H Q => ∃ i j, x = .str i ∧ y = .str j ∧ i.length + j.length ≤ sizeLine ∧ Q (.str (i ++ j)) H
def rBinD (K : PySem.W.Frag) (o : BO) : R2 := match o with
  | .add => fun x y H Q => rI0 (fun i j => .int (i + j)) x y H Q ∨ rStrCat x y H Q ∨ rCatA K x y H Q ∨ rCat x y H Q
  | .sub => rI0 fun i j => .int (i - j)
  | .mul => fun x y H Q => rI CMul (fun i j => .int (i * j)) x y H Q ∨ rI CMulW (fun i j => .int (i * j)) x y H Q ∨ rRep x y H Q ∨ rRepTA K x y H Q
  | .fdiv => fun x y H Q => rI CDivN (fun i j => .int (i.fdiv j)) x y H Q ∨ rI CDivW (fun i j => .int (i / j)) x y H Q
  | .mod => rI (fun _ j => j ≠ 0) fun i j => .int (i.fmod j)
def boOp : BO → Operator
  | .add => .Add
  | .sub => .Sub
  | .mul => .Mult
  | .fdiv => .FloorDiv
  | .mod => .Mod
theorem op_binD (o : BO) : OpR X (binaryOp (boOp o)) (rBinD X.K o) := by
  cases o with
  | add => exact op_add.or (op_add_str.or (op_catA.or op_cat))
  | sub => exact op_sub
  | mul => exact op_mul.or (op_mulW.or (op_rep.or op_repTA))
  | fdiv => exact op_fdivN.or op_fdivW
  | mod => exact op_modN
end

section
variable {R : RC} {Z : Addr → Prop} {H0 : Hp} {io : Option (Nat × Addr)} {σ : Sg} {H : Hp} {env : Loca}
/-- an answer: a value for d in a heap that has grown; if d is a list, a new one -/
def Ans (R : RC) (Z : Addr → Prop) (H0 : Hp) (io : Option (Nat × Addr)) (σ : Sg) (H : Hp) (env : Loca) (fresh : Bool) (d : D) (v : V) (H' : Hp) : Prop :=
  ER R Z H0 io σ H' env ∧ Mono σ H env σ H' env ∧ Rep R (hid Z σ env H') v d ∧ (fresh = true → isMut d = true → ∃ p, v = .ref p ∧ Fri R Z H0 io H σ H' env p d)
theorem Ans.flat (r : ER R Z H0 io σ H env) {d : D} {v : V} {f : Bool} (q : Rep R (hid Z σ env H) v d) (hm : f = true → isMut d = false) : Ans R Z H0 io σ H env f d v H :=
  ⟨r, .refl, q, fun hf h => by rw [hm hf] at h; cases h⟩
theorem Ans.newTup (r : ER R Z H0 io σ H env) {ds : List D} {vs : List V} {p : Addr} {f : Bool} (hp : H p = none) (q : Reps R (hid Z σ env H) vs ds) : Ans R Z H0 io σ H env f (.tup ds) (.ref p) (upd H p (.tup vs)) := by
  have e : Same H (upd H p (.tup vs)) := same_new hp
  exact ⟨r.grow e, mono_grow e, .tup (.inl (.inl (r.seen hp))) (q.mono (see_grow e)), fun _ h => by cases h⟩
theorem Ans.newLst (r : ER R Z H0 io σ H env) {ds : List D} {vs : List V} {p : Addr} {f : Bool} (hp : H p = none) (q : Reps R (hid Z σ env H) vs ds) : Ans R Z H0 io σ H env f (.lst ds) (.ref p) (upd H p (.lst vs)) := by
  have e : Same H (upd H p (.lst vs)) := same_new hp
  refine ⟨r.grow e, mono_grow e, .lst (r.seen hp) (q.mono (see_grow e)), fun _ _ => ⟨p, rfl, Fri.mk' r hp e upd_same fun Hh hs => .lst upd_same (q.mono hs)⟩⟩

abbrev Pr (R : RC) (Z : Addr → Prop) (σ : Sg) (H : Hp) (env : Loca) (v : V) (d : D) : Prop := PRep R H (hid Z σ env H) v d

theorem of_bin {o : BO} {x y : V} {d e : D} {Q : VK} {k : D → Prop} (r : ER R Z H0 io σ H env) (hx : Pr R Z σ H env x d) (hy : Pr R Z σ H env y e) (w : wBin o d e k)
    (hQ : ∀ g v H', k g → Ans R Z H0 io σ H env (frB o) g v H' → Q v H') : rBinD R.K o x y H Q := by
  cases d with
  | int i =>
    have hx := hx.int
    subst hx
    cases e with
    | int j =>
      have hy := hy.int
      subst hy
      cases o with
      | add => exact .inl ⟨i, j, rfl, rfl, hQ _ _ _ w (.flat r (.int _) fun _ => rfl)⟩
      | sub => exact ⟨i, j, rfl, rfl, hQ _ _ _ w (.flat r (.int _) fun _ => rfl)⟩
      | mul =>
        obtain ⟨m, w⟩ := w
        rcases m with m | m
        · exact .inl ⟨i, j, rfl, rfl, m, hQ _ _ _ w (.flat r (.int _) fun _ => rfl)⟩
        · exact .inr (.inl ⟨i, j, rfl, rfl, m, hQ _ _ _ w (.flat r (.int _) fun _ => rfl)⟩)
      | fdiv =>
        obtain ⟨m, w⟩ := w
        rcases m with m | m
        · exact .inl ⟨i, j, rfl, rfl, m, hQ _ _ _ w (.flat r (.int _) fun _ => rfl)⟩
        · refine .inr ⟨i, j, rfl, rfl, m, ?_⟩
          have q := hQ _ _ _ w (.flat r (.int _) fun _ => rfl)
          rw [Int.fdiv_eq_ediv_of_nonneg _ (Int.le_of_lt m.1)] at q
          exact q
      | mod => exact ⟨i, j, rfl, rfl, w.1, hQ _ _ _ w.2 (.flat r (.int _) fun _ => rfl)⟩
    | _ => cases o <;> exact absurd w (by intro z; exact z)
  | str i =>
    have hx := hx.str
    subst hx
    cases e with
    | str j =>
      have hy := hy.str
      subst hy
      cases o with
      | add => exact .inr (.inl ⟨i, j, rfl, rfl, w.1, hQ _ _ _ w.2 (.flat r (.str _) fun _ => rfl)⟩)
      | _ => exact absurd w (by intro z; exact z)
    | _ => cases o <;> exact absurd w (by intro z; exact z)
  | tup xs =>
    obtain ⟨a, vs, rfl, ha, hv⟩ := hx.tup hid_le
    cases e with
    | tup ys =>
      obtain ⟨b, us, rfl, hb, hu⟩ := hy.tup hid_le
      cases o with
      | add =>
        obtain ⟨hl, w⟩ := w
        refine .inr (.inr (.inl ⟨a, b, vs, us, rfl, rfl, ha, hb, by rw [hv.length, hu.length]; exact hl, ?_⟩))
        refine ⟨fun e => ?_, fun _ e => ?_, fun _ _ p hp => hQ _ _ _ w (.newTup r hp (hv.append hu))⟩
        · subst e
          cases hv
          exact hQ _ _ _ w (.flat r (match hy with | .rep q => q | .own q => nomatch q) fun _ => rfl)
        · subst e
          cases hu
          rw [List.append_nil] at w
          exact hQ _ _ _ w (.flat r (match hx with | .rep q => q | .own q => nomatch q) fun _ => rfl)
      | _ => exact absurd w (by intro z; exact z)
    | int j =>
      have hy := hy.int
      subst hy
      cases o with
      | mul =>
        obtain ⟨h1, h2, h3, w⟩ := w
        refine .inr (.inr (.inr ⟨a, j, vs, rfl, rfl, ha, h1, h2, by rw [hv.length]; exact h3, fun e => ?_, fun _ _ p hp => hQ _ _ _ w (.newTup r hp (hv.rep _))⟩))
        have e1 : (List.replicate j.toNat xs).flatten = xs := by
          rcases e with e | e
          · subst e
            cases hv
            simp
          · subst e
            simp
        rw [e1] at w
        exact hQ _ _ _ w (.flat r (match hx with | .rep q => q | .own q => nomatch q) fun _ => rfl)
      | _ => exact absurd w (by intro z; exact z)
    | _ => cases o <;> exact absurd w (by intro z; exact z)
  | lst xs =>
    obtain ⟨a, vs, rfl, ha, hv⟩ := hx.lst hid_le
    cases e with
    | lst ys =>
      obtain ⟨b, us, rfl, hb, hu⟩ := hy.lst hid_le
      cases o with
      | add =>
        obtain ⟨hl, w⟩ := w
        exact .inr (.inr (.inr ⟨a, b, vs, us, rfl, rfl, ha, hb, by rw [hv.length, hu.length]; exact hl, fun p hp => hQ _ _ _ w (.newLst r hp (hv.append hu))⟩))
      | _ => exact absurd w (by intro z; exact z)
    | int j =>
      have hy := hy.int
      subst hy
      cases o with
      | mul =>
        obtain ⟨h1, h2, h3, w⟩ := w
        exact .inr (.inr (.inl ⟨a, j, vs, rfl, rfl, ha, h1, h2, by rw [hv.length]; exact h3, fun p hp => hQ _ _ _ w (.newLst r hp (hv.rep _))⟩))
      | _ => exact absurd w (by intro z; exact z)
    | _ => cases o <;> exact absurd w (by intro z; exact z)
  | _ => cases o <;> cases e <;> exact absurd w (by intro z; exact z)
end
end Pd

/-! Truth, comparisons, items, slices, built-ins: by values. -/
namespace Pd
open L2 PyProof.Rows PySem.Spec PySem
section
variable {R : RC} {H Hh : Hp}

theorem of_tru (le : Same Hh H) {v : V} {d : D} {k : Bool → Prop} (hx : PRep R H Hh v d) (w : wTru d k) : ∃ b, TruV R.K v H b ∧ k b := by
  cases d with
  | non => cases hx.non; exact ⟨false, rfl, w⟩
  | bl b => cases hx.bl; exact ⟨b, rfl, w⟩
  | int i => cases hx.int; exact ⟨_, rfl, w⟩
  | str s =>
    cases hx.str
    refine ⟨_, ⟨w.1, rfl⟩, ?_⟩
    have e : ((s.length : Int) != 0) = (s.length != 0) := by
      cases hs : s.length with
      | zero => rfl
      | succ n => rfl
    rw [e]
    exact w.2
  | tup xs =>
    obtain ⟨a, vs, rfl, ha, hv⟩ := hx.tup le
    refine ⟨_, .inr (.inl ⟨vs, ha, rfl⟩), ?_⟩
    cases hv <;> exact w
  | lst xs =>
    obtain ⟨a, vs, rfl, ha, hv⟩ := hx.lst le
    refine ⟨_, .inl ⟨vs, .of ha, rfl⟩, ?_⟩
    cases hv <;> exact w
  | frz xs =>
    obtain ⟨a, vs, rfl, ha, hv⟩ := hx.frz le
    refine ⟨_, .inl ⟨vs, ha, rfl⟩, ?_⟩
    cases hv <;> exact w
  | dk _ _ => exact absurd w (by intro z; exact z)
  | fn _ => exact absurd w (by intro z; exact z)
  | ins _ _ => exact absurd w (by intro z; exact z)

/-! ### == -/
mutual
theorem eqv_eqD : ∀ d e : D, okD d = true → okD e = true → PyData.eqv (pD d) (pD e) = eqD d e
  | .non, .non, _, _ => by simp [pD, PyData.eqv, eqD]
  | .non, .bl _, _, _ => by simp [pD, PyData.eqv, eqD]
  | .non, .int _, _, _ => by simp [pD, PyData.eqv, eqD]
  | .non, .str _, _, _ => by simp [pD, PyData.eqv, eqD]
  | .non, .tup _, _, _ => by simp [pD, PyData.eqv, eqD]
  | .non, .lst _, _, _ => by simp [pD, PyData.eqv, eqD]
  | .non, .frz _, _, _ => by simp [pD, PyData.eqv, eqD]
  | .bl _, .non, _, _ => by simp [pD, PyData.eqv, eqD]
  | .bl _, .bl _, _, _ => by simp [pD, PyData.eqv, eqD]
  | .bl _, .int _, _, _ => by simp [pD, PyData.eqv, eqD]
  | .bl _, .str _, _, _ => by simp [pD, PyData.eqv, eqD]
  | .bl _, .tup _, _, _ => by simp [pD, PyData.eqv, eqD]
  | .bl _, .lst _, _, _ => by simp [pD, PyData.eqv, eqD]
  | .bl _, .frz _, _, _ => by simp [pD, PyData.eqv, eqD]
  | .int _, .non, _, _ => by simp [pD, PyData.eqv, eqD]
  | .int _, .bl _, _, _ => by simp [pD, PyData.eqv, eqD]
  | .int _, .int _, _, _ => by simp [pD, PyData.eqv, eqD]
  | .int _, .str _, _, _ => by simp [pD, PyData.eqv, eqD]
  | .int _, .tup _, _, _ => by simp [pD, PyData.eqv, eqD]
  | .int _, .lst _, _, _ => by simp [pD, PyData.eqv, eqD]
  | .int _, .frz _, _, _ => by simp [pD, PyData.eqv, eqD]
  | .str _, .non, _, _ => by simp [pD, PyData.eqv, eqD]
  | .str _, .bl _, _, _ => by simp [pD, PyData.eqv, eqD]
  | .str _, .int _, _, _ => by simp [pD, PyData.eqv, eqD]
  | .str _, .str _, _, _ => by simp [pD, PyData.eqv, eqD]
  | .str _, .tup _, _, _ => by simp [pD, PyData.eqv, eqD]
  | .str _, .lst _, _, _ => by simp [pD, PyData.eqv, eqD]
  | .str _, .frz _, _, _ => by simp [pD, PyData.eqv, eqD]
  | .tup _, .non, _, _ => by simp [pD, PyData.eqv, eqD]
  | .tup _, .bl _, _, _ => by simp [pD, PyData.eqv, eqD]
  | .tup _, .int _, _, _ => by simp [pD, PyData.eqv, eqD]
  | .tup _, .str _, _, _ => by simp [pD, PyData.eqv, eqD]
  | .tup xs, .tup ys, h1, h2 => by
    simp only [pD, PyData.eqv, eqD]
    exact eqv_eqDs xs ys (by simpa [okD] using h1) (by simpa [okD] using h2)
  | .tup _, .lst _, _, _ => by simp [pD, PyData.eqv, eqD]
  | .tup _, .frz _, _, _ => by simp [pD, PyData.eqv, eqD]
  | .lst _, .non, _, _ => by simp [pD, PyData.eqv, eqD]
  | .lst _, .bl _, _, _ => by simp [pD, PyData.eqv, eqD]
  | .lst _, .int _, _, _ => by simp [pD, PyData.eqv, eqD]
  | .lst _, .str _, _, _ => by simp [pD, PyData.eqv, eqD]
  | .lst _, .tup _, _, _ => by simp [pD, PyData.eqv, eqD]
  | .lst xs, .lst ys, h1, h2 => by
    simp only [pD, PyData.eqv, eqD]
    exact eqv_eqDs xs ys (by simpa [okD] using h1) (by simpa [okD] using h2)
  | .lst xs, .frz ys, h1, h2 => by
    simp only [pD, PyData.eqv, eqD]
    exact eqv_eqDs xs ys (by simpa [okD] using h1) (by simpa [okD] using h2)
  | .frz _, .non, _, _ => by simp [pD, PyData.eqv, eqD]
  | .frz _, .bl _, _, _ => by simp [pD, PyData.eqv, eqD]
  | .frz _, .int _, _, _ => by simp [pD, PyData.eqv, eqD]
  | .frz _, .str _, _, _ => by simp [pD, PyData.eqv, eqD]
  | .frz _, .tup _, _, _ => by simp [pD, PyData.eqv, eqD]
  | .frz xs, .lst ys, h1, h2 => by
    simp only [pD, PyData.eqv, eqD]
    exact eqv_eqDs xs ys (by simpa [okD] using h1) (by simpa [okD] using h2)
  | .frz xs, .frz ys, h1, h2 => by
    simp only [pD, PyData.eqv, eqD]
    exact eqv_eqDs xs ys (by simpa [okD] using h1) (by simpa [okD] using h2)
  | .dk _ _, _, h, _ => by simp [okD] at h
  | .fn _, _, h, _ => by simp [okD] at h
  | .ins _ _, _, h, _ => by simp [okD] at h
  | _, .dk _ _, _, h => by simp [okD] at h
  | _, .fn _, _, h => by simp [okD] at h
  | _, .ins _ _, _, h => by simp [okD] at h
theorem eqv_eqDs : ∀ xs ys : List D, okDs xs = true → okDs ys = true → PyData.eqvAll (pDs xs) (pDs ys) = eqDs xs ys
  | [], [], _, _ => by simp [pDs, PyData.eqvAll, eqDs]
  | [], _ :: _, _, _ => by simp [pDs, PyData.eqvAll, eqDs]
  | _ :: _, [], _, _ => by simp [pDs, PyData.eqvAll, eqDs]
  | x :: xs, y :: ys, h1, h2 => by
    simp only [okDs, Bool.and_eq_true] at h1 h2
    simp only [pDs, PyData.eqvAll, eqDs, eqv_eqD x y h1.1 h2.1, eqv_eqDs xs ys h1.2 h2.2]
end
mutual
theorem pD_can : ∀ d : D, okD d = true → (pD d).canLay0 = true ∧ (pD d).depth = depD d
  | .non, _ => by simp [pD, PyData.canLay0, PyData.depth, depD]
  | .bl _, _ => by simp [pD, PyData.canLay0, PyData.depth, depD]
  | .int _, _ => by simp [pD, PyData.canLay0, PyData.depth, depD]
  | .str s, h => by
    simp only [okD] at h
    simp [pD, PyData.canLay0, PyData.depth, depD, h]
  | .tup xs, h => by
    obtain ⟨a, b⟩ := pDs_can xs (by simpa [okD] using h)
    simp [pD, PyData.canLay0, PyData.depth, depD, a, b]
  | .lst xs, h => by
    obtain ⟨a, b⟩ := pDs_can xs (by simpa [okD] using h)
    simp [pD, PyData.canLay0, PyData.depth, depD, a, b]
  | .frz xs, h => by
    obtain ⟨a, b⟩ := pDs_can xs (by simpa [okD] using h)
    simp [pD, PyData.canLay0, PyData.depth, depD, a, b]
  | .dk _ _, h => by simp [okD] at h
  | .fn _, h => by simp [okD] at h
  | .ins _ _, h => by simp [okD] at h
theorem pDs_can : ∀ xs : List D, okDs xs = true → PyData.canLayAll0 (pDs xs) = true ∧ PyData.depthAll (pDs xs) = depDs xs
  | [], _ => by simp [pDs, PyData.canLayAll0, PyData.depthAll, depDs]
  | x :: xs, h => by
    simp only [okDs, Bool.and_eq_true] at h
    obtain ⟨a, b⟩ := pD_can x h.1
    obtain ⟨c, d⟩ := pDs_can xs h.2
    simp [pDs, PyData.canLayAll0, PyData.depthAll, depDs, a, b, c, d]
end
theorem EqOk.shaped {d : D} (h : EqOk d) : SeqAt.shaped (pD d) = true := by
  obtain ⟨a, b⟩ := pD_can d h.1
  simp [SeqAt.shaped, a, b, h.2]
mutual
theorem Rep.dp : ∀ {v : V} {d : D}, Rep R H v d → okD d = true → Dp R.K H v (pD d)
  | _, _, .non, _ => .non
  | _, _, .bl b, _ => .bl b
  | _, _, .int i, _ => .int i
  | _, _, .str s, _ => .str s
  | _, _, .tup h r, k => .tup h (Reps.dps r (by simpa [okD] using k))
  | _, _, .lst h r, k => .lst (.of h) (Reps.dps r (by simpa [okD] using k))
  | _, _, .frz h r, k => .lst h (Reps.dps r (by simpa [okD] using k))
  | _, _, .dk _ _, k => by simp [okD] at k
  | _, _, .fn _ _, k => by simp [okD] at k
  | _, _, .ins _ _ _ _, k => by simp [okD] at k
theorem Reps.dps : ∀ {vs : List V} {ds : List D}, Reps R H vs ds → okDs ds = true → DpAll R.K H vs (pDs ds)
  | _, _, .nil, _ => .nil
  | _, _, .cons r t, k => by
    simp only [okDs, Bool.and_eq_true] at k
    exact .cons (Rep.dp r k.1) (Reps.dps t k.2)
end
theorem of_eqS {v u : V} {d e : D} (hx : PRep R H Hh v d) (hy : PRep R H Hh u e) (h : (sclD d = true ∧ sclD e = true) ∨ (EqOk d ∧ EqOk e)) (le : Same Hh H) :
    (scal v u = true ∧ decide (v = u) = eqD d e) ∨ ∃ p q, Dp R.K H v p ∧ Dp R.K H u q ∧ SeqAt.shaped p = true ∧ SeqAt.shaped q = true ∧ PyData.eqv p q = eqD d e := by
  have gen : EqOk d → EqOk e → ∃ p q, Dp R.K H v p ∧ Dp R.K H u q ∧ SeqAt.shaped p = true ∧ SeqAt.shaped q = true ∧ PyData.eqv p q = eqD d e := fun h1 h2 =>
    ⟨pD d, pD e, (hx.full le fun vs q => by rw [q] at h1; simp [EqOk, okD] at h1).dp h1.1, (hy.full le fun vs q => by rw [q] at h2; simp [EqOk, okD] at h2).dp h2.1, h1.shaped, h2.shaped, eqv_eqD d e h1.1 h2.1⟩
  rcases h with ⟨h1, h2⟩ | ⟨h1, h2⟩
  · have k0 : ∀ {d : D}, (d = .non ∨ (∃ b, d = .bl b) ∨ ∃ i, d = .int i) → EqOk d := fun {d} h => by
      rcases h with rfl | ⟨b, rfl⟩ | ⟨i, rfl⟩ <;> exact ⟨by simp [okD], by simp [depD]⟩
    cases d with
    | non =>
      cases hx.non
      cases e with
      | non => cases hy.non; exact .inl ⟨rfl, by simp [eqD]⟩
      | bl b => cases hy.bl; exact .inl ⟨rfl, by simp [eqD]⟩
      | int i => cases hy.int; exact .inl ⟨rfl, by simp [eqD]⟩
      | str s => cases hy.str; exact .inl ⟨rfl, by simp [eqD]⟩
      | _ => simp [sclD] at h2
    | bl b =>
      cases hx.bl
      cases e with
      | non => cases hy.non; exact .inl ⟨rfl, by simp [eqD]⟩
      | bl b => cases hy.bl; exact .inl ⟨rfl, by rw [dec_bl]; simp [eqD]⟩
      | int i => exact .inr (gen (k0 (.inr (.inl ⟨_, rfl⟩))) (k0 (.inr (.inr ⟨_, rfl⟩))))
      | str s => cases hy.str; exact .inl ⟨rfl, by simp [eqD]⟩
      | _ => simp [sclD] at h2
    | int i =>
      cases hx.int
      cases e with
      | non => cases hy.non; exact .inl ⟨rfl, by simp [eqD]⟩
      | bl b => exact .inr (gen (k0 (.inr (.inr ⟨_, rfl⟩))) (k0 (.inr (.inl ⟨_, rfl⟩))))
      | int j => cases hy.int; exact .inl ⟨rfl, by rw [dec_int]; simp [eqD]⟩
      | str s => cases hy.str; exact .inl ⟨rfl, by simp [eqD]⟩
      | _ => simp [sclD] at h2
    | str s =>
      cases hx.str
      cases e with
      | non => cases hy.non; exact .inl ⟨rfl, by simp [eqD]⟩
      | bl b => cases hy.bl; exact .inl ⟨rfl, by simp [eqD]⟩
      | int j => cases hy.int; exact .inl ⟨rfl, by simp [eqD]⟩
      | str s => cases hy.str; exact .inl ⟨rfl, by rw [dec_str]; simp [eqD]⟩
      | _ => simp [sclD] at h2
    | _ => simp [sclD] at h1
  · exact .inr (gen h1 h2)
theorem scl_flat {v : V} {d : D} (h : Rep R H v d) (k : sclD d = true) : flatV v = true := by
  cases h <;> first | rfl | simp [sclD] at k
theorem scl_eq {v u : V} {d e : D} (hx : Rep R H v d) (hy : Rep R H u e) (k1 : sclD d = true) (k2 : sclD e = true) : eqV v u = eqD d e := by
  cases hx <;> first | (simp [sclD] at k1; done) | (cases hy <;> first | (simp [sclD] at k2; done) | simp [eqV, eqD])
theorem scl_all : ∀ {vs : List V} {ds : List D}, Reps R H vs ds → ds.all sclD = true → vs.all flatV = true
  | _, _, .nil, _ => rfl
  | _, _, .cons r t, k => by
    simp only [List.all_cons, Bool.and_eq_true] at k ⊢
    exact ⟨scl_flat r k.1, scl_all t k.2⟩
theorem scl_any {u : V} {e : D} (hy : Rep R H u e) (k2 : sclD e = true) : ∀ {vs : List V} {ds : List D}, Reps R H vs ds → ds.all sclD = true → inV u vs = ds.any fun y => eqD y e
  | _, _, .nil, _ => rfl
  | _, _, .cons r t, k => by
    simp only [List.all_cons, Bool.and_eq_true] at k
    have ih := scl_any hy k2 t k.2
    unfold inV at ih ⊢
    rw [List.any_cons, List.any_cons, ih, scl_eq r hy k.1 k2]

theorem intsD_eq : ∀ {ds : List D} {ns : List Int}, intsD ds = some ns → ds = ns.map D.int
  | [], _, h => by cases h; rfl
  | .int i :: r, ns, h => by
    simp only [intsD, Option.map_eq_some_iff] at h
    obtain ⟨m, h, rfl⟩ := h
    rw [intsD_eq h]; rfl
  | .non :: _, _, h => by simp [intsD] at h
  | .bl _ :: _, _, h => by simp [intsD] at h
  | .str _ :: _, _, h => by simp [intsD] at h
  | .tup _ :: _, _, h => by simp [intsD] at h
  | .lst _ :: _, _, h => by simp [intsD] at h
  | .frz _ :: _, _, h => by simp [intsD] at h
  | .dk _ _ :: _, _, h => by simp [intsD] at h
  | .fn _ :: _, _, h => by simp [intsD] at h
  | .ins _ _ :: _, _, h => by simp [intsD] at h
theorem intsD_map : ∀ ns : List Int, intsD (ns.map D.int) = some ns
  | [] => rfl
  | n :: ns => by simp [intsD, intsD_map ns]
theorem strsD_eq : ∀ {ds : List D} {ns : List Str}, strsD ds = some ns → ds = ns.map D.str
  | [], _, h => by cases h; rfl
  | .str i :: r, ns, h => by
    simp only [strsD, Option.map_eq_some_iff] at h
    obtain ⟨m, h, rfl⟩ := h
    rw [strsD_eq h]; rfl
  | .non :: _, _, h => by simp [strsD] at h
  | .bl _ :: _, _, h => by simp [strsD] at h
  | .int _ :: _, _, h => by simp [strsD] at h
  | .tup _ :: _, _, h => by simp [strsD] at h
  | .lst _ :: _, _, h => by simp [strsD] at h
  | .frz _ :: _, _, h => by simp [strsD] at h
  | .dk _ _ :: _, _, h => by simp [strsD] at h
  | .fn _ :: _, _, h => by simp [strsD] at h
  | .ins _ _ :: _, _, h => by simp [strsD] at h
theorem strsD_map : ∀ ns : List Str, strsD (ns.map D.str) = some ns
  | [] => rfl
  | n :: ns => by simp [strsD, strsD_map ns]
theorem blsD_eq : ∀ {ds : List D} {ns : List Bool}, blsD ds = some ns → ds = ns.map D.bl
  | [], _, h => by cases h; rfl
  | .bl i :: r, ns, h => by
    simp only [blsD, Option.map_eq_some_iff] at h
    obtain ⟨m, h, rfl⟩ := h
    rw [blsD_eq h]; rfl
  | .non :: _, _, h => by simp [blsD] at h
  | .str _ :: _, _, h => by simp [blsD] at h
  | .int _ :: _, _, h => by simp [blsD] at h
  | .tup _ :: _, _, h => by simp [blsD] at h
  | .lst _ :: _, _, h => by simp [blsD] at h
  | .frz _ :: _, _, h => by simp [blsD] at h
  | .dk _ _ :: _, _, h => by simp [blsD] at h
  | .fn _ :: _, _, h => by simp [blsD] at h
  | .ins _ _ :: _, _, h => by simp [blsD] at h
theorem blsD_map : ∀ ns : List Bool, blsD (ns.map D.bl) = some ns
  | [] => rfl
  | n :: ns => by simp [blsD, blsD_map ns]
end

/-! ### comparisons -/
section
variable {X : Cx}
def coOp : CO → CmpOp
  | .eq => .Eq
  | .ne => .NotEq
  | .lt => .Lt
  | .le => .LtE
  | .gt => .Gt
  | .ge => .GtE
  | .in_ => .In
  | .nin => .NotIn
/-- x in y, items and x data of any depth, y a list or a tuple -/
def rInT (K : PySem.W.Frag) (neg : Bool) : R2 := fun x y H Q => ∃ d ds, Dp K H x d ∧ (Dp K H y (.list ds) ∨ Dp K H y (.tuple ds)) ∧ d.canLay0 = true ∧ PyData.canLayAll0 ds = true ∧ d.depth ≤ 62 ∧ Q (.bl (neg ^^ ds.any fun z => PyData.eqv z d)) H
theorem op_inT (hu : X.A.units + 64 < cLine) : OpR X (compareOp .In) (rInT X.K false) := by
  intro pins s σ H x y v u Q I rx ry h
  obtain ⟨d, ds, hd, he, sd, se, hz, q⟩ := h
  obtain ⟨as, r1⟩ := Dp.reads I d x v hd rx
  have room : X.A.units + 1 + min (PyData.depthAll ds) d.depth < cLine := by
    have := Nat.min_le_right (PyData.depthAll ds) d.depth
    omega
  rw [Bool.false_xor] at q
  rcases he with he | he
  · obtain ⟨bs, r2⟩ := Dp.reads I (.list ds) y u he ry
    exact SeqAt.in_list_reads r2 r1 se sd room ⟨.bl _, H, I, rfl, q⟩
  · obtain ⟨bs, r2⟩ := Dp.reads I (.tuple ds) y u he ry
    exact SeqAt.in_tuple_reads r2 r1 se sd room ⟨.bl _, H, I, rfl, q⟩
theorem op_ninT (hu : X.A.units + 64 < cLine) : OpR X (compareOp .NotIn) (rInT X.K true) := by
  intro pins s σ H x y v u Q I rx ry h
  obtain ⟨d, ds, hd, he, sd, se, hz, q⟩ := h
  obtain ⟨as, r1⟩ := Dp.reads I d x v hd rx
  have room : X.A.units + 1 + min (PyData.depthAll ds) d.depth < cLine := by
    have := Nat.min_le_right (PyData.depthAll ds) d.depth
    omega
  rw [Bool.true_xor] at q
  rcases he with he | he
  · obtain ⟨bs, r2⟩ := Dp.reads I (.list ds) y u he ry
    exact SeqAt.notIn_list_reads r2 r1 se sd room ⟨.bl _, H, I, rfl, q⟩
  · obtain ⟨bs, r2⟩ := Dp.reads I (.tuple ds) y u he ry
    exact SeqAt.notIn_tuple_reads r2 r1 se sd room ⟨.bl _, H, I, rfl, q⟩
theorem pDs_any {d : D} (hd : okD d = true) : ∀ ds : List D, okDs ds = true → ((pDs ds).any fun z => PyData.eqv z (pD d)) = ds.any fun y => eqD y d
  | [], _ => rfl
  | x :: xs, h => by
    simp only [okDs, Bool.and_eq_true] at h
    show (PyData.eqv (pD x) (pD d) || (pDs xs).any fun z => PyData.eqv z (pD d)) = (eqD x d || xs.any fun y => eqD y d)
    rw [eqv_eqD x d h.1 hd, pDs_any hd xs h.2]
theorem of_inT {R : RC} {H Hh : Hp} (le : Same Hh H) {v u : V} {d e : D} {ds : List D} {neg : Bool} {Q : VK} (hx : PRep R H Hh v d) (hy : PRep R H Hh u e) (h1 : seqD e = some ds) (h2 : okD d = true) (h3 : depD d ≤ 62) (h4 : okDs ds = true) (hQ : Q (.bl (neg ^^ ds.any fun y => eqD y d)) H) : rInT R.K neg v u H Q := by
  obtain ⟨c1, c2⟩ := pD_can d h2
  obtain ⟨c3, c4⟩ := pDs_can ds h4
  refine ⟨pD d, pDs ds, (hx.full le fun vs q => by rw [q] at h2; simp [okD] at h2).dp h2, ?_, c1, c3, by rw [c2]; exact h3, by rw [pDs_any h2 ds h4]; exact hQ⟩
  cases e with
  | tup xs =>
    cases h1
    obtain ⟨a, vs, rfl, ha, hv⟩ := hy.tup le
    exact .inr (.tup ha ((hv.mono le).dps h4))
  | lst xs =>
    cases h1
    obtain ⟨a, vs, rfl, ha, hv⟩ := hy.lst le
    exact .inl (.lst (.of ha) ((hv.mono le).dps h4))
  | frz xs =>
    cases h1
    obtain ⟨a, vs, rfl, ha, hv⟩ := hy.frz le
    exact .inl (.lst ha ((hv.mono le).dps h4))
  | _ => simp [seqD] at h1
def rCmpD (K : PySem.W.Frag) (o : CO) : R2 := match o with
  | .eq => fun x y H Q => rEq x y H Q ∨ rEqD K x y H Q
  | .ne => fun x y H Q => rNe x y H Q ∨ rNeD K x y H Q
  | .lt => fun x y H Q => rI0 (fun i j => .bl (decide (i < j))) x y H Q ∨ rLtT K x y H Q
  | .le => rI0 fun i j => .bl (decide (i ≤ j))
  | .gt => rI0 fun i j => .bl (decide (j < i))
  | .ge => rI0 fun i j => .bl (decide (j ≤ i))
  | .in_ => fun x y H Q => rIn K false x y H Q ∨ rInT K false x y H Q
  | .nin => fun x y H Q => rIn K true x y H Q ∨ rInT K true x y H Q
theorem op_cmpD (o : CO) (hu : X.A.units + 64 < cLine) : OpR X (compareOp (coOp o)) (rCmpD X.K o) := by
  cases o with
  | eq => exact op_eq.or (op_eqD hu)
  | ne => exact op_ne.or (op_neD hu)
  | lt => exact op_lt.or (op_ltT (by omega))
  | le => exact op_le
  | gt => exact op_gt
  | ge => exact op_ge
  | in_ => exact op_in_seq.or (op_inT hu)
  | nin => exact op_notIn_seq.or (op_ninT hu)
theorem of_cmp {R : RC} {H Hh : Hp} (le : Same Hh H) {o : CO} {v u : V} {d e : D} {k : Bool → Prop} {Q : VK} (hx : PRep R H Hh v d) (hy : PRep R H Hh u e) (w : wCmp o d e k) (hQ : ∀ b, k b → Q (.bl b) H) : rCmpD R.K o v u H Q := by
  have seqs : ∀ {u : V} {e : D} {ds : List D}, PRep R H Hh u e → seqD e = some ds → ∃ a vs, u = .ref a ∧ (SqL R.K H a vs ∨ SqT R.K H a vs) ∧ Reps R Hh vs ds := fun {u e ds} hy h => by
    cases e with
    | tup xs =>
      cases h
      obtain ⟨a, vs, q, ha, hv⟩ := hy.tup le
      exact ⟨a, vs, q, .inr ha, hv⟩
    | lst xs =>
      cases h
      obtain ⟨a, vs, q, ha, hv⟩ := hy.lst le
      exact ⟨a, vs, q, .inl (.of ha), hv⟩
    | frz xs =>
      cases h
      obtain ⟨a, vs, q, ha, hv⟩ := hy.frz le
      exact ⟨a, vs, q, .inl ha, hv⟩
    | _ => simp [seqD] at h
  cases o with
  | eq =>
    obtain ⟨h, w⟩ : ((sclD d = true ∧ sclD e = true) ∨ (EqOk d ∧ EqOk e)) ∧ k (eqD d e) := by cases d <;> exact w
    rcases of_eqS hx hy h le with ⟨s1, s2⟩ | ⟨p, q, a, b, c, f, g⟩
    · exact .inl ⟨s1, by rw [s2]; exact hQ _ w⟩
    · exact .inr ⟨p, q, a, b, c, f, by rw [g]; exact hQ _ w⟩
  | ne =>
    obtain ⟨h, w⟩ : ((sclD d = true ∧ sclD e = true) ∨ (EqOk d ∧ EqOk e)) ∧ k (!eqD d e) := by cases d <;> exact w
    rcases of_eqS hx hy h le with ⟨s1, s2⟩ | ⟨p, q, a, b, c, f, g⟩
    · exact .inl ⟨s1, by rw [s2]; exact hQ _ w⟩
    · exact .inr ⟨p, q, a, b, c, f, by rw [g]; exact hQ _ w⟩
  | lt =>
    cases d with
    | int i =>
      cases e with
      | int j => exact .inl ⟨i, j, hx.int, hy.int, hQ _ w⟩
      | _ => exact absurd w (by intro z; exact z)
    | tup xs =>
      cases e with
      | tup ys =>
        obtain ⟨ns, ms, h1, h2, w⟩ := w
        obtain ⟨a, vs, rfl, ha, hv⟩ := hx.tup le
        obtain ⟨b, us, rfl, hb, hu⟩ := hy.tup le
        rw [intsD_eq h1] at hv
        rw [intsD_eq h2] at hu
        have e1 := hv.ints
        have e2 := hu.ints
        subst e1 e2
        exact .inr ⟨a, b, ns, ms, rfl, rfl, ha, hb, hQ _ w⟩
      | _ => exact absurd w (by intro z; exact z)
    | _ => exact absurd w (by intro z; exact z)
  | le =>
    cases d with
    | int i =>
      cases e with
      | int j => exact ⟨i, j, hx.int, hy.int, hQ _ w⟩
      | _ => exact absurd w (by intro z; exact z)
    | _ => exact absurd w (by intro z; exact z)
  | gt =>
    cases d with
    | int i =>
      cases e with
      | int j => exact ⟨i, j, hx.int, hy.int, hQ _ w⟩
      | _ => exact absurd w (by intro z; exact z)
    | _ => exact absurd w (by intro z; exact z)
  | ge =>
    cases d with
    | int i =>
      cases e with
      | int j => exact ⟨i, j, hx.int, hy.int, hQ _ w⟩
      | _ => exact absurd w (by intro z; exact z)
    | _ => exact absurd w (by intro z; exact z)
  | in_ =>
    obtain ⟨ds, h1, hh, w⟩ : ∃ ds, seqD e = some ds ∧ ((sclD d = true ∧ ds.all sclD = true) ∨ (okD d = true ∧ depD d ≤ 62 ∧ okDs ds = true)) ∧ k (ds.any fun y => eqD y d) := by cases d <;> exact w
    rcases hh with ⟨h2, h3⟩ | ⟨h2, h3, h4⟩
    rotate_left
    · exact .inr (of_inT le hx hy h1 h2 h3 h4 (by rw [Bool.false_xor]; exact hQ _ w))
    obtain ⟨a, vs, rfl, ha, hv⟩ := seqs hy h1
    have hx' : Rep R H v d := hx.full le fun vs q => by rw [q] at h2; simp [sclD] at h2
    have hv' := hv.mono le
    exact .inl ⟨a, vs, rfl, ha, scl_flat hx' h2, scl_all hv' h3, by rw [scl_any hx' h2 hv' h3]; exact hQ _ w⟩
  | nin =>
    obtain ⟨ds, h1, hh, w⟩ : ∃ ds, seqD e = some ds ∧ ((sclD d = true ∧ ds.all sclD = true) ∨ (okD d = true ∧ depD d ≤ 62 ∧ okDs ds = true)) ∧ k (!ds.any fun y => eqD y d) := by cases d <;> exact w
    rcases hh with ⟨h2, h3⟩ | ⟨h2, h3, h4⟩
    rotate_left
    · exact .inr (of_inT le hx hy h1 h2 h3 h4 (by rw [Bool.true_xor]; exact hQ _ w))
    obtain ⟨a, vs, rfl, ha, hv⟩ := seqs hy h1
    have hx' : Rep R H v d := hx.full le fun vs q => by rw [q] at h2; simp [sclD] at h2
    have hv' := hv.mono le
    exact .inl ⟨a, vs, rfl, ha, scl_flat hx' h2, scl_all hv' h3, by rw [scl_any hx' h2 hv' h3]; exact hQ _ w⟩
end
end Pd

/-! Items, slices, built-ins, methods: by values. -/
namespace Pd
open L2 PyProof.Rows PySem.Spec PySem
section
variable {R : RC} {Z : Addr → Prop} {H0 : Hp} {io : Option (Nat × Addr)} {σ : Sg} {H : Hp} {env : Loca}

theorem Reps.atI {H : Hp} {vs : List V} {ds : List D} {i : Int} {d : D} (r : Reps R H vs ds) (h : atI ds i = some d) : ∃ v, L2.atI vs i = some v ∧ Rep R H v d := by
  obtain ⟨j, h1, h2, h3, _⟩ := Option.bind_eq_some_iff.mp h |>.elim fun j hj => (⟨j, hj.1, hj.2, trivial, trivial⟩ : ∃ j, ixN ds.length i = some j ∧ ds[j]? = some d ∧ True ∧ True)
  obtain ⟨v, e, q⟩ := r.getD h2
  refine ⟨v, ?_, q⟩
  unfold L2.atI
  rw [r.length, h1]
  exact e
theorem of_ix {x y : V} {d e : D} {Q : VK} {k : D → Prop} (r : ER R Z H0 io σ H env) (hx : Pr R Z σ H env x d) (hy : Pr R Z σ H env y e) (w : wIx d e k)
    (hQ : ∀ g v, k g → Rep R (hid Z σ env H) v g → Q v H) : rIx R.K x y H Q := by
  cases d with
  | tup xs =>
    cases e with
    | int i =>
      obtain ⟨g, h, w⟩ := w
      obtain ⟨a, vs, rfl, ha, hv⟩ := hx.tup hid_le
      obtain ⟨v, h1, h2⟩ := hv.atI h
      exact .inr (.inl ⟨a, vs, i, v, rfl, hy.int, ha, h1, hQ _ _ w h2⟩)
    | _ => exact absurd w (by intro z; exact z)
  | lst xs =>
    cases e with
    | int i =>
      obtain ⟨g, h, w⟩ := w
      obtain ⟨a, vs, rfl, ha, hv⟩ := hx.lst hid_le
      obtain ⟨v, h1, h2⟩ := hv.atI h
      exact .inl ⟨a, vs, i, v, rfl, hy.int, .of ha, h1, hQ _ _ w h2⟩
    | _ => exact absurd w (by intro z; exact z)
  | frz xs =>
    cases e with
    | int i =>
      obtain ⟨g, h, w⟩ := w
      obtain ⟨a, vs, rfl, ha, hv⟩ := hx.frz hid_le
      obtain ⟨v, h1, h2⟩ := hv.atI h
      exact .inl ⟨a, vs, i, v, rfl, hy.int, ha, h1, hQ _ _ w h2⟩
    | _ => exact absurd w (by intro z; exact z)
  | str s =>
    cases e with
    | int i =>
      obtain ⟨h0, c, h, w⟩ := w
      exact .inr (.inr ⟨s, i, c, hx.str, hy.int, h0, h, hQ _ _ w (.str _)⟩)
    | _ => exact absurd w (by intro z; exact z)
  | _ => exact absurd w (by intro z; exact z)
theorem Reps.cut {H : Hp} {vs : List V} {ds : List D} (r : Reps R H vs ds) (lo hi : Option Int) : Reps R H (cutV vs lo hi) (cutD ds lo hi) := by
  unfold cutV cutD
  rw [r.length]
  exact (r.drop _).take _
theorem cutD_whole {ds : List D} {lo hi : Option Int} (h : HT.sIx ds.length 0 lo = 0 ∧ HT.sIx ds.length ds.length hi = ds.length) : cutD ds lo hi = ds := by
  unfold cutD
  rw [h.1, h.2]
  simp
def rSlD (K : PySem.W.Frag) : V → Option Int → Option Int → Hp → VK → Prop := fun x lo hi H Q => rSlL K x lo hi H Q ∨ rSlA K x lo hi H Q
theorem sl_D {X : Cx} : SlR X (rSlD X.K) := sl_list.or sl_tupA
theorem of_slc {x : V} {d : D} {lo hi : Option Int} {Q : VK} {k : D → Prop} (r : ER R Z H0 io σ H env) (hx : Pr R Z σ H env x d) (w : wSlc d lo hi k)
    (hQ : ∀ g v H', k g → Ans R Z H0 io σ H env true g v H' → Q v H') : rSlD R.K x lo hi H Q := by
  cases d with
  | tup xs =>
    obtain ⟨a, vs, rfl, ha, hv⟩ := hx.tup hid_le
    refine .inr ⟨a, vs, rfl, ha, fun h => ?_, fun _ p hp => hQ _ _ _ w (.newTup r hp (hv.cut lo hi))⟩
    have w' : k (.tup (cutD xs lo hi)) := w
    rw [cutD_whole (by rw [← hv.length]; exact h)] at w'
    exact hQ _ _ _ w' (.flat r (match hx with | .rep q => q | .own q => nomatch q) fun _ => rfl)
  | lst xs =>
    obtain ⟨a, vs, rfl, ha, hv⟩ := hx.lst hid_le
    exact .inl ⟨a, vs, rfl, .of ha, fun p hp => hQ _ _ _ w (.newLst r hp (hv.cut lo hi))⟩
  | frz xs =>
    obtain ⟨a, vs, rfl, ha, hv⟩ := hx.frz hid_le
    exact .inl ⟨a, vs, rfl, ha, fun p hp => hQ _ _ _ w (.newLst r hp (hv.cut lo hi))⟩
  | _ => exact absurd w (by intro z; exact z)

/-! ### built-ins -/
inductive PReps (R : RC) (H Hh : Hp) : List V → List D → Prop
  | nil : PReps R H Hh [] []
  | cons {v : V} {d : D} {vs : List V} {ds : List D} : PRep R H Hh v d → PReps R H Hh vs ds → PReps R H Hh (v :: vs) (d :: ds)
/-- the machine's name of a built-in: a function or a type -/
def bfName : BF → Str
  | .len => "len"
  | .abs => "abs"
  | .max => "max"
  | .min => "min"
  | .int => "int"
  | .str => "str"
  | .tuple => "tuple"
  | .list => "list"
  | .sum => "sum"
  | .all => "all"
  | .any => "any"
  | .sorted => "sorted"
  | .bool => "bool"
def bfVal : BF → Value
  | .len => .builtin "len"
  | .abs => .builtin "abs"
  | .max => .builtin "max"
  | .min => .builtin "min"
  | .int => .type "int"
  | .str => .type "str"
  | .tuple => .type "tuple"
  | .list => .type "list"
  | .sum => .builtin "sum"
  | .all => .builtin "all"
  | .any => .builtin "any"
  | .sorted => .builtin "sorted"
  | .bool => .type "bool"
theorem bf_boot : ∀ f : BF, bootBuiltins (bfName f) = some (bfVal f)
  | .len => by decide +kernel
  | .abs => by decide +kernel
  | .max => by decide +kernel
  | .min => by decide +kernel
  | .int => by decide +kernel
  | .str => by decide +kernel
  | .tuple => by decide +kernel
  | .list => by decide +kernel
  | .sum => by decide +kernel
  | .all => by decide +kernel
  | .any => by decide +kernel
  | .sorted => by decide +kernel
  | .bool => by decide +kernel
theorem bf_ne : ∀ f : BF, bfName f ≠ "__name__" ∧ (bfName f == ("__debug__" : Str)) = false
  | .len => by decide
  | .abs => by decide
  | .max => by decide
  | .min => by decide
  | .int => by decide
  | .str => by decide
  | .tuple => by decide
  | .list => by decide
  | .sum => by decide
  | .all => by decide
  | .any => by decide
  | .sorted => by decide
  | .bool => by decide
abbrev RBl := List V → Hp → VK → Prop
def rBltD (K : PySem.W.Frag) : BF → RBl
  | .len => fun xs H Q => ∃ x n, xs = [x] ∧ LenV K x H n ∧ Q (.int n) H
  | .abs => fun xs H Q => ∃ i, xs = [.int i] ∧ Q (.int (if i < 0 then -i else i)) H
  | .max => fun xs H Q => (∃ i j, xs = [.int i, .int j] ∧ Q (.int (if j > i then j else i)) H) ∨ rMax K xs H Q
  | .min => fun xs H Q => (∃ i j, xs = [.int i, .int j] ∧ Q (.int (if j < i then j else i)) H) ∨ rMin K xs H Q
  | .int => fun xs H Q => (∃ i, xs = [.int i] ∧ Q (.int i) H) ∨ ∃ k, xs = [.bl k] ∧ Q (.int (if k then 1 else 0)) H
  | .str => fun xs H Q => ∃ i, xs = [.int i] ∧ i.natAbs.log2 < 1920 ∧ Q (.str (toString i)) H
  | .tuple => fun xs H Q => ∃ p ys, xs = [.ref p] ∧ ((SqL K H p ys ∧ ∀ l, H l = none → Q (.ref l) (upd H l (.tup ys))) ∨ (SqT K H p ys ∧ Q (.ref p) H))
  | .list => fun xs H Q => ∃ p ys, xs = [.ref p] ∧ (SqL K H p ys ∨ SqT K H p ys) ∧ ∀ l, H l = none → Q (.ref l) (upd H l (.lst ys))
  | .sum => rSum K
  | .all => rAll K
  | .any => rAny K
  | .sorted => fun _ _ _ => False
  | .bool => fun xs H Q => (∃ i, xs = [.int i] ∧ Q (.bl (i != 0)) H) ∨ ∃ k, xs = [.bl k] ∧ Q (.bl k) H
theorem call_D {X : Cx} (hc : X.calm = true) : ∀ f : BF, CallR X (bfVal f) (rBltD X.K f)
  | .len => call_len
  | .abs => call_abs
  | .max => (call_max2 hc).or (cr_max hc)
  | .min => (call_min2 hc).or (cr_min hc)
  | .int => call_int1
  | .str => call_str_int
  | .tuple => call_tuple_of
  | .list => call_list_of
  | .sum => cr_sum hc
  | .all => cr_all hc
  | .any => cr_any hc
  | .sorted => fun _ _ _ _ _ _ _ _ _ h => h.elim
  | .bool => call_bool1
theorem of_one {f : D → (D → Prop) → Prop} {H Hh : Hp} {xs : List V} {ds : List D} {k : D → Prop} (hx : PReps R H Hh xs ds) (w : one1 f ds k) : ∃ v d, xs = [v] ∧ PRep R H Hh v d ∧ f d k := by
  match ds, hx, w with
  | [_], .cons h .nil, w => exact ⟨_, _, rfl, h, w⟩
theorem of_blt {f : BF} {xs : List V} {ds : List D} {Q : VK} {k : D → Prop} (r : ER R Z H0 io σ H env) (hx : PReps R H (hid Z σ env H) xs ds) (w : wBlt f ds k)
    (hQ : ∀ g v H', k g → Ans R Z H0 io σ H env (frF f) g v H' → Q v H') : rBltD R.K f xs H Q := by
  cases f with
  | len =>
    obtain ⟨v, d, rfl, h, w⟩ := of_one hx w
    cases d with
    | tup ys =>
      obtain ⟨a, vs, rfl, ha, hv⟩ := h.tup hid_le
      exact ⟨_, vs.length, rfl, .inr ⟨vs, ha, rfl⟩, by rw [hv.length]; exact hQ _ _ _ w (.flat r (.int _) fun _ => rfl)⟩
    | lst ys =>
      obtain ⟨a, vs, rfl, ha, hv⟩ := h.lst hid_le
      exact ⟨_, vs.length, rfl, .inl ⟨vs, .of ha, rfl⟩, by rw [hv.length]; exact hQ _ _ _ w (.flat r (.int _) fun _ => rfl)⟩
    | frz ys =>
      obtain ⟨a, vs, rfl, ha, hv⟩ := h.frz hid_le
      exact ⟨_, vs.length, rfl, .inl ⟨vs, ha, rfl⟩, by rw [hv.length]; exact hQ _ _ _ w (.flat r (.int _) fun _ => rfl)⟩
    | str s =>
      cases h.str
      exact ⟨_, s.length, rfl, ⟨w.1, rfl⟩, hQ _ _ _ w.2 (.flat r (.int _) fun _ => rfl)⟩
    | _ => exact absurd w (by intro z; exact z)
  | abs =>
    obtain ⟨v, d, rfl, h, w⟩ := of_one hx w
    cases d with
    | int i =>
      cases h.int
      exact ⟨_, rfl, hQ _ _ _ w (.flat r (.int _) fun _ => rfl)⟩
    | _ => exact absurd w (by intro z; exact z)
  | max =>
    match ds, hx, w with
    | [.int _, .int _], .cons h (.cons h2 .nil), w =>
      cases h.int
      cases h2.int
      exact .inl ⟨_, _, rfl, hQ _ _ _ w (.flat r (.int _) fun _ => rfl)⟩
    | [.lst ys], .cons h .nil, w =>
      obtain ⟨ns, e, hn, w⟩ := w
      rw [intsD_eq e] at h
      obtain ⟨a, vs, rfl, ha, hv⟩ := h.lst hid_le
      have ev := hv.ints
      subst ev
      exact .inr ⟨a, ns, rfl, .of ha, hn, fun m h1 h2 => hQ _ _ _ (w m h1 h2) (.flat r (.int _) fun _ => rfl)⟩
  | min =>
    match ds, hx, w with
    | [.int _, .int _], .cons h (.cons h2 .nil), w =>
      cases h.int
      cases h2.int
      exact .inl ⟨_, _, rfl, hQ _ _ _ w (.flat r (.int _) fun _ => rfl)⟩
    | [.lst ys], .cons h .nil, w =>
      obtain ⟨ns, e, hn, w⟩ := w
      rw [intsD_eq e] at h
      obtain ⟨a, vs, rfl, ha, hv⟩ := h.lst hid_le
      have ev := hv.ints
      subst ev
      exact .inr ⟨a, ns, rfl, .of ha, hn, fun m h1 h2 => hQ _ _ _ (w m h1 h2) (.flat r (.int _) fun _ => rfl)⟩
  | int =>
    obtain ⟨v, d, rfl, h, w⟩ := of_one hx w
    cases d with
    | int i =>
      cases h.int
      exact .inl ⟨_, rfl, hQ _ _ _ w (.flat r (.int _) fun _ => rfl)⟩
    | bl i =>
      cases h.bl
      exact .inr ⟨_, rfl, hQ _ _ _ w (.flat r (.int _) fun _ => rfl)⟩
    | _ => exact absurd w (by intro z; exact z)
  | bool =>
    obtain ⟨v, d, rfl, h, w⟩ := of_one hx w
    cases d with
    | int i =>
      cases h.int
      exact .inl ⟨_, rfl, hQ _ _ _ w (.flat r (.bl _) fun _ => rfl)⟩
    | bl i =>
      cases h.bl
      exact .inr ⟨_, rfl, hQ _ _ _ w (.flat r (.bl _) fun _ => rfl)⟩
    | _ => exact absurd w (by intro z; exact z)
  | str =>
    obtain ⟨v, d, rfl, h, w⟩ := of_one hx w
    cases d with
    | int i =>
      cases h.int
      exact ⟨_, rfl, w.1, hQ _ _ _ w.2 (.flat r (.str _) fun _ => rfl)⟩
    | _ => exact absurd w (by intro z; exact z)
  | tuple =>
    obtain ⟨v, d, rfl, h, w⟩ := of_one hx w
    cases d with
    | tup ys =>
      have q : Rep R (hid Z σ env H) v (.tup ys) := match h with | .rep q => q | .own q => nomatch q
      obtain ⟨a, vs, rfl, ha, hv⟩ := h.tup hid_le
      exact ⟨a, vs, rfl, .inr ⟨ha, hQ _ _ _ w (.flat r q fun _ => rfl)⟩⟩
    | lst ys =>
      obtain ⟨a, vs, rfl, ha, hv⟩ := h.lst hid_le
      exact ⟨a, vs, rfl, .inl ⟨.of ha, fun p hp => hQ _ _ _ w (.newTup r hp hv)⟩⟩
    | frz ys =>
      obtain ⟨a, vs, rfl, ha, hv⟩ := h.frz hid_le
      exact ⟨a, vs, rfl, .inl ⟨ha, fun p hp => hQ _ _ _ w (.newTup r hp hv)⟩⟩
    | _ => exact absurd w (by intro z; exact z)
  | list =>
    obtain ⟨v, d, rfl, h, w⟩ := of_one hx w
    cases d with
    | tup ys =>
      obtain ⟨a, vs, rfl, ha, hv⟩ := h.tup hid_le
      exact ⟨a, vs, rfl, .inr ha, fun p hp => hQ _ _ _ w (.newLst r hp hv)⟩
    | lst ys =>
      obtain ⟨a, vs, rfl, ha, hv⟩ := h.lst hid_le
      exact ⟨a, vs, rfl, .inl (.of ha), fun p hp => hQ _ _ _ w (.newLst r hp hv)⟩
    | frz ys =>
      obtain ⟨a, vs, rfl, ha, hv⟩ := h.frz hid_le
      exact ⟨a, vs, rfl, .inl ha, fun p hp => hQ _ _ _ w (.newLst r hp hv)⟩
    | _ => exact absurd w (by intro z; exact z)
  | sum =>
    obtain ⟨v, d, rfl, h, w⟩ := of_one hx w
    cases d with
    | lst ys =>
      obtain ⟨ns, e, w⟩ := w
      rw [intsD_eq e] at h
      obtain ⟨a, vs, rfl, ha, hv⟩ := h.lst hid_le
      have ev := hv.ints
      subst ev
      exact ⟨a, ns, rfl, .of ha, hQ _ _ _ w (.flat r (.int _) fun _ => rfl)⟩
    | _ => exact absurd w (by intro z; exact z)
  | all =>
    obtain ⟨v, d, rfl, h, w⟩ := of_one hx w
    cases d with
    | lst ys =>
      obtain ⟨ns, e, w⟩ := w
      rw [blsD_eq e] at h
      obtain ⟨a, vs, rfl, ha, hv⟩ := h.lst hid_le
      have ev := hv.bls
      subst ev
      exact ⟨a, ns, rfl, .of ha, hQ _ _ _ w (.flat r (.bl _) fun _ => rfl)⟩
    | _ => exact absurd w (by intro z; exact z)
  | any =>
    obtain ⟨v, d, rfl, h, w⟩ := of_one hx w
    cases d with
    | lst ys =>
      obtain ⟨ns, e, w⟩ := w
      rw [blsD_eq e] at h
      obtain ⟨a, vs, rfl, ha, hv⟩ := h.lst hid_le
      have ev := hv.bls
      subst ev
      exact ⟨a, ns, rfl, .of ha, hQ _ _ _ w (.flat r (.bl _) fun _ => rfl)⟩
    | _ => exact absurd w (by intro z; exact z)
  | sorted => exact absurd w (by intro z; exact z)

/-! ### isinstance -/
def tyName : TyN → Str
  | .int => "int"
  | .bool => "bool"
  | .str => "str"
  | .tuple => "tuple"
  | .list => "list"
def tyStr : TyN → String
  | .int => "int"
  | .bool => "bool"
  | .str => "str"
  | .tuple => "tuple"
  | .list => "list"
theorem ty_boot : ∀ t : TyN, bootBuiltins (tyName t) = some (.type (tyStr t))
  | .int => by decide +kernel
  | .bool => by decide +kernel
  | .str => by decide +kernel
  | .tuple => by decide +kernel
  | .list => by decide +kernel
theorem ty_ne : ∀ t : TyN, tyName t ≠ "__name__" ∧ (tyName t == ("__debug__" : Str)) = false
  | .int => by decide
  | .bool => by decide
  | .str => by decide
  | .tuple => by decide
  | .list => by decide
def dTy : D → String
  | .non => "NoneType"
  | .bl _ => "bool"
  | .int _ => "int"
  | .str _ => "str"
  | .tup _ => "tuple"
  | .lst _ => "list"
  | .frz _ => "list"
  | .dk _ _ => "dict"
  | _ => ""
theorem kit_D (K : PySem.W.Frag) {d : D} (h : hasTy d = true) (t : TyN) : PySem.W.kitOne K (.type (dTy d)) (.type (tyStr t)) = some (tyIs d t) := by
  have k : ∀ (a : String) (b : Bool), dTy d = a → (kitB a (tyStr t) = some b) → tyIs d t = b → PySem.W.kitOne K (.type (dTy d)) (.type (tyStr t)) = some (tyIs d t) := fun a b h1 h2 h3 => by
    rw [h1, h3]
    exact kit_ty h2
  cases d with
  | non => cases t with
    | int => exact k "NoneType" false rfl (by decide +kernel) rfl
    | bool => exact k "NoneType" false rfl (by decide +kernel) rfl
    | str => exact k "NoneType" false rfl (by decide +kernel) rfl
    | tuple => exact k "NoneType" false rfl (by decide +kernel) rfl
    | list => exact k "NoneType" false rfl (by decide +kernel) rfl
  | bl b => cases t with
    | int => exact k "bool" true rfl (by decide +kernel) rfl
    | bool => exact k "bool" true rfl (by decide +kernel) rfl
    | str => exact k "bool" false rfl (by decide +kernel) rfl
    | tuple => exact k "bool" false rfl (by decide +kernel) rfl
    | list => exact k "bool" false rfl (by decide +kernel) rfl
  | int i => cases t with
    | int => exact k "int" true rfl (by decide +kernel) rfl
    | bool => exact k "int" false rfl (by decide +kernel) rfl
    | str => exact k "int" false rfl (by decide +kernel) rfl
    | tuple => exact k "int" false rfl (by decide +kernel) rfl
    | list => exact k "int" false rfl (by decide +kernel) rfl
  | str s => cases t with
    | int => exact k "str" false rfl (by decide +kernel) rfl
    | bool => exact k "str" false rfl (by decide +kernel) rfl
    | str => exact k "str" true rfl (by decide +kernel) rfl
    | tuple => exact k "str" false rfl (by decide +kernel) rfl
    | list => exact k "str" false rfl (by decide +kernel) rfl
  | tup s => cases t with
    | int => exact k "tuple" false rfl (by decide +kernel) rfl
    | bool => exact k "tuple" false rfl (by decide +kernel) rfl
    | str => exact k "tuple" false rfl (by decide +kernel) rfl
    | tuple => exact k "tuple" true rfl (by decide +kernel) rfl
    | list => exact k "tuple" false rfl (by decide +kernel) rfl
  | lst s => cases t with
    | int => exact k "list" false rfl (by decide +kernel) rfl
    | bool => exact k "list" false rfl (by decide +kernel) rfl
    | str => exact k "list" false rfl (by decide +kernel) rfl
    | tuple => exact k "list" false rfl (by decide +kernel) rfl
    | list => exact k "list" true rfl (by decide +kernel) rfl
  | dk s v => cases t with
    | int => exact k "dict" false rfl (by decide +kernel) rfl
    | bool => exact k "dict" false rfl (by decide +kernel) rfl
    | str => exact k "dict" false rfl (by decide +kernel) rfl
    | tuple => exact k "dict" false rfl (by decide +kernel) rfl
    | list => exact k "dict" false rfl (by decide +kernel) rfl
  | frz s => simp [hasTy] at h
  | fn s => simp [hasTy] at h
  | ins s v => simp [hasTy] at h
theorem of_ty {H Hh : Hp} (le : Same Hh H) {v : V} {d : D} (hx : PRep R H Hh v d) (h : hasTy d = true) : TyX R.K H v (.type (dTy d)) := by
  cases d with
  | non => cases hx.non; exact .base .non
  | bl b => cases hx.bl; exact .base (.bl b)
  | int i => cases hx.int; exact .base (.int i)
  | str s => cases hx.str; exact .base (.str s)
  | tup xs =>
    obtain ⟨a, vs, rfl, ha, hv⟩ := hx.tup le
    rcases ha with (ha | ⟨o, ha⟩) | ⟨o, its, n, hk, hc, _⟩
    · exact .base (.tup ha)
    · exact .fTuple ha
    · exact .kTuple hk hc
  | lst xs =>
    obtain ⟨a, vs, rfl, ha, hv⟩ := hx.lst le
    exact .base (.lst ha)
  | dk ks vs =>
    cases hx.full le (fun _ q => by cases q) with
    | dk ha _ => exact .base (.dK ha)
  | frz s => simp [hasTy] at h
  | fn s => simp [hasTy] at h
  | ins s v => simp [hasTy] at h
end
end Pd

/-! enumerate of a tuple. -/
namespace Pd
open L2 PyProof.Rows PySem.Spec PySem
section
open PySem.AutoSeq1 (wpAny_loadPart')
theorem enumT_new (l : Addr) (items : Array Value) (n : Nat) (dct : Option Addr) (sl : Array (Option Value)) :
    Meets (Builtin.«enumerate.__new__» ⟨[.type "enumerate", .ref l], []⟩) (fun _ R s => s.heap.get? l = some { cls := .type "tuple", dict := dct, data := .seq items n, slots := sl } ∧
      R (.ok (.ret (.ref (s.heap.push { cls := .type "tuple_iterator", data := .fields #[.ref l, .int 0 0] }).objs.size)))
        { s with heap := (s.heap.push { cls := .type "tuple_iterator", data := .fields #[.ref l, .int 0 0] }).push { cls := .type "enumerate", data := .fields #[.none, .bool false, .ref s.heap.objs.size, rawInt 0, .none, .none] } }) :=
  .of_wp fun prog w A R s h => by
    obtain ⟨hp, g, d, tk, os⟩ := s
    obtain ⟨hl, h⟩ := h
    have hsub := sub_enumerate
    have hT : Heap.IsTuple (Shared.heap ⟨hp, g, d, tk, os⟩) l items := ⟨_, hl, rfl, n, rfl⟩
    wp_walk using wpAny_loadPart' hl
    refine wpAny_stack_any fun st => wpAny_pure ?_
    split
    · rename_i c _ _ _ _ _
      cases (c == Value.type "enumerate")
      · wp_walk using wpAny_loadPart' hl, wpAny_pyIter_tuple hT
        exact ⟨_, rfl, h⟩
      · wp_walk using wpAny_loadPart' hl, wpAny_pyIter_tuple hT
        exact ⟨_, rfl, h⟩
    · wp_walk using wpAny_loadPart' hl, wpAny_pyIter_tuple hT
      exact ⟨_, rfl, h⟩
end
section
variable {prog : Program} {w : World} {A : Around} {E : Value → Shared → Prop} {s : Shared}
theorem call_enumT {l : Addr} {items : Array Value} {Q : Value → Shared → Prop} (hL : s.heap.IsTuple l items)
    (h : ∀ h', IsEnum h' (s.heap.objs.size + 1) s.heap.objs.size 0 .none → h'.IsTupleIter s.heap.objs.size l 0 → h'.objs.size = s.heap.objs.size + 2 →
      (∀ b o, s.heap.get? b = some o → h'.get? b = some o) → Q (.ref (s.heap.objs.size + 1)) { s with heap := h' }) :
    wpAny (model prog w) A (call (.type "enumerate") [.ref l]) Q E s := by
  obtain ⟨⟨c, dct, dt, sl⟩, hl, hc, n, hd⟩ := hL
  replace hc : c = .type "tuple" := hc
  replace hd : dt = .seq items n := hd
  subst hc hd
  refine callType_new F.called_enumerate (by decide) (F.typeCall_enumerate_1 _) (F.newCall_enumerate_1 _) (fun obj => F.args_object_init_2 obj _) F.entry_enumerate_new (enumT_new l items n dct sl) ⟨hl, ?_⟩
  have hz : (s.heap.push { cls := .type "tuple_iterator", data := .fields #[.ref l, .int 0 0] }).objs.size = s.heap.objs.size + 1 := Heap.size_push ..
  show _ ∧ _
  rw [hz]
  have he : IsEnum ((s.heap.push { cls := .type "tuple_iterator", data := .fields #[.ref l, .int 0 0] }).push { cls := .type "enumerate", data := .fields #[.none, .bool false, .ref s.heap.objs.size, rawInt 0, .none, .none] }) (s.heap.objs.size + 1) s.heap.objs.size 0 .none := by
    have q := Heap.get?_push_size (s.heap.push { cls := .type "tuple_iterator", data := .fields #[.ref l, .int 0 0] }) (o := { cls := .type "enumerate", data := .fields #[.none, .bool false, .ref s.heap.objs.size, rawInt 0, .none, .none] }) rfl
    rw [hz] at q
    exact q
  refine ⟨⟨_, he, rfl⟩, h _ he ⟨_, Heap.get?_push_of_some _ (Heap.get?_push_size _ rfl), rfl, rfl⟩ (by rw [Heap.size_push, hz]) fun b o x => Heap.get?_push_of_some _ (Heap.get?_push_of_some _ x)⟩
end
theorem drawsT {prog : Program} {w : World} {A : Around} (hh : A.handled = none) (it l : Addr) (hne : l ≠ it) (items : Array Value) :
    Draws prog w A it [it, l] items.size (fun i v => items[i]? = some v) (fun i h => h.IsTupleIter it l i ∧ h.IsTuple l items) where
  live := fun _ _ st => let ⟨o, ho, _⟩ := st.1; ⟨o, ho⟩
  frame := fun _ _ _ st hk => ⟨let ⟨o, ho, r⟩ := st.1; ⟨o, hk it (by simp) o ho, r⟩, let ⟨o, ho, r⟩ := st.2; ⟨o, hk l (by simp) o ho, r⟩⟩
  item := fun i s Q E hi st hQ => by
    refine RZ.nextOf_tuple_item st.1 st.2 (x := items[i]) (by simp [hi]) fun h' hit' hs' => ?_
    exact hQ _ h' s.toks (by simp [hi]) ⟨hit', st.2.extBut hs'.extBut hne⟩ hs'
  done := fun s Q E st hE => RZ.nextOf_tuple_end hh st.1 st.2 (by simp) hE
theorem drawsE {prog : Program} {w : World} {A : Around} (hh : A.handled = none) (it l : Addr) {items : Array Value} {i : Nat} (hx : items[i]? = none) :
    Draws prog w A it [it, l] i (fun _ _ => True) (fun j h => j = i ∧ h.IsTupleIter it l i ∧ h.IsTuple l items) where
  live := fun _ _ st => let ⟨o, ho, _⟩ := st.2.1; ⟨o, ho⟩
  frame := fun _ _ _ st hk => ⟨st.1, let ⟨o, ho, r⟩ := st.2.1; ⟨o, hk it (by simp) o ho, r⟩, let ⟨o, ho, r⟩ := st.2.2; ⟨o, hk l (by simp) o ho, r⟩⟩
  item := fun j s Q E hi st hQ => by
    have := st.1
    omega
  done := fun s Q E st hE => RZ.nextOf_tuple_end hh st.2.1 st.2.2 hx hE
/-- the tuple at a, each item in a new pair -/
def IteT (K : PySem.W.Frag) (a : Addr) : It :=
  ⟨fun i H => ∃ (xs : List V) (x : V), SqT K H a xs ∧ xs[i]? = some x, fun i H v H' => ∃ T x, v = .ref T ∧ H T = none ∧ H' = upd H T (.tup [.int (i : Nat), x]) ∧ ∀ xs, SqT K H a xs → xs[i]? = some x, fun i H => ∃ xs : List V, SqT K H a xs ∧ xs.length ≤ i⟩
theorem turn_enumT {P : Program} {w : World} {K : PySem.W.Frag} {elts : List Expr} {kk : Nat} {tpos : Pos} (a e it : Addr) (hai : a ≠ it) (hea : e ≠ a) :
    Turn P w K (.Tuple elts kk tpos) (IteT K a) [e, it] e (fun i h => (∃ old, IsEnum h e it ((i : Nat) : Int) old) ∧ h.IsTupleIter it a i ∧ e ≠ it) where
  mem := by simp
  obj := fun i h st b hb => by
    obtain ⟨⟨old, he⟩, ⟨o, ho, hc, hd⟩, _⟩ := st
    have e' : b = e ∨ b = it := by simpa using hb
    rcases e' with z | z
    · rw [z]
      exact ⟨_, he, fun v q => nomatch q⟩
    · rw [z]
      exact ⟨o, ho, fun v q => by rw [hd] at q; cases q⟩
  keep := fun i h h' st k => let ⟨⟨old, he⟩, hi, hne⟩ := st; ⟨⟨old, k e (by simp) _ he⟩, hi.at fun o q => k it (by simp) o q, hne⟩
  item := by
    intro X hP hw hK hc i pins s σ H E I hf st hg
    subst hP hw hK
    obtain ⟨⟨old, he⟩, hit, hne⟩ := st
    obtain ⟨xs, x, hq, hx⟩ := hg
    obtain ⟨its, rv, p, hz⟩ := I.tuple hq
    obtain ⟨u, hu, ru⟩ := rv.get hx
    have hel : e < s.heap.objs.size := Heap.lt_size he
    have hil : it < s.heap.objs.size := by
      obtain ⟨_, q, _⟩ := hit
      exact Heap.lt_size q
    have hlt : i < its.toArray.size := by
      have := (List.getElem?_eq_some_iff.mp hu).1
      simpa using this
    refine wpAny_pyNext_enum_itemD (drawsT (show X.A.in1.handled = none from I.ok.hd hc) it a hai its.toArray) he ⟨hit, p⟩ hlt hne (by simp; exact ⟨hne, hea⟩) fun u' h' tk hu' ho hst' hT hsz hk => ?_
    have hue : u' = u := by
      have h2 : its.toArray[i]? = some u := by simpa using hu
      rw [h2] at hu'
      exact (Option.some.inj hu').symm
    subst hue
    refine ⟨_, rfl, wpAny_letOwnedTupleGo_enum (s := { s with heap := h', toks := tk + 1 }) ho fun h'' he' sb => ?_⟩
    have hT2 : h''.get? s.heap.objs.size = some { cls := .type "tuple", data := .seq #[.int i tk, u'] } := (sb.2 _ (Nat.ne_of_gt hel)).trans hT
    have new : ObjOk X.prog X.w (upd H s.heap.objs.size (.tup [.int (i : Nat), x])) h'' s.heap.objs.size (.tup [.int (i : Nat), x]) :=
      ⟨by show 2 ≤ sizeLine; decide, [.int i tk, u'], .cons ⟨_, rfl⟩ (.cons ru .nil), ⟨_, hT2, rfl, _, rfl⟩⟩
    have I1 : Inv X pins σ (upd H s.heap.objs.size (.tup [.int (i : Nat), x])) { s with heap := h'', toks := tk + 1 } :=
      I.turnedNew (ch := [e, it]) (fun b ob hb q => (sb.2 b (fun z => hb (by simp [z]))).trans (hk b ob (fun z => hb (by simp [z])) (fun z => hb (by simp [z])) q)) hf (Nat.le_refl _) new
    refine ⟨.ref s.heap.objs.size, _, I1, rfl, ⟨_, x, rfl, I.hok.fresh (Nat.le_refl _), rfl, fun ys hy => by rw [I.tuple_inj hy hq]; exact hx⟩, ⟨⟨u', ?_⟩, hst'.1.at fun o q => (sb.2 it (Ne.symm hne)).trans q, hne⟩, fun b hb => ?_⟩
    · have e1 : ((i + 1 : Nat) : Int) = (i : Int) + 1 := by omega
      rw [e1]
      exact he'
    · have hb' : b < s.heap.objs.size := by
        have e' : b = e ∨ b = it := by simpa using hb
        rcases e' with z | z
        · rw [z]
          exact hel
        · rw [z]
          exact hil
      rw [upd_ne (Nat.ne_of_lt hb')]
      exact (hf b hb).1
  done := by
    intro X hP hw hK hc i pins s σ H E I hf st hg
    subst hP hw hK
    obtain ⟨⟨old, he⟩, hit, hne⟩ := st
    obtain ⟨xs, hq, hx⟩ := hg
    obtain ⟨its, rv, p, hz⟩ := I.tuple hq
    obtain ⟨f0, f1, f2, f3, f4, f5⟩ := hf it (by simp)
    have hl := rv.length
    have hend : its.toArray[i]? = none := by simp; omega
    refine wpAny_pyNext_enum_endD (drawsE (show X.A.in1.handled = none from I.ok.hd hc) it a hend) he ⟨rfl, hit, p⟩ fun h' eb => ⟨rfl, I.turned (t' := s.toks) (fun b o hb q => eb b o hb q) f0 f1 f3 f4 f5⟩
  self := fun A i s Q E st h => let ⟨⟨_, he⟩, _⟩ := st; wpAny_pyIter_enum he h
/-- enumerate of a list or a tuple -/
theorem pi_enumA {X : Cx} {e : Expr} {ta : TA} {p pos tpos : Pos} {elts : List Expr} {kk : Nat} (hg : Gl X "enumerate") (hm : X.mg "enumerate" = none) (ha : PA X [e] ta) (hs : starEach [e] X.env = [(false, eval e X.env)]) :
    PI X (.Tuple elts kk tpos) (.Call (.Name "enumerate" p) [e] [] pos) (fun σ H R => ta σ H fun vs H1 => ∃ a, vs = [.ref a] ∧ (((∃ xs, SqL X.K H1 a xs) ∧ R (Ite X.K a) H1) ∨ ((∃ xs, SqT X.K H1 a xs) ∧ R (IteT X.K a) H1))) := by
  refine ⟨fun pins s σ H R I h => ?_⟩
  refine Call_ (ld_blt I hg hm boot_enumerate (PyProof.Rows.callWith_type1 (thn (ha.run pos pins s σ H _ I h) fun us s1 ⟨vs, H1, I1, r1, q1⟩ => ?_) hs rfl))
  obtain ⟨a, ex, q⟩ := q1
  subst ex
  cases r1 with
  | cons r rr =>
    cases rr
    cases r
    have fp : ∀ b ∈ [s1.heap.objs.size + 1, s1.heap.objs.size], FpOk X pins H1 b := fun b hb => by
      have e' : b = s1.heap.objs.size + 1 ∨ b = s1.heap.objs.size := by simpa using hb
      have hle : s1.heap.objs.size ≤ b := by
        rcases e' with z | z
        · rw [z]; exact Nat.le_add_right _ _
        · rw [z]; exact Nat.le_refl _
      exact I1.fpOk hle (I1.hok.fresh hle)
    rcases q with ⟨⟨xs, hq⟩, q⟩ | ⟨⟨xs, hq⟩, q⟩
    · obtain ⟨its, rv, p', hz⟩ := I1.list hq
      refine call_enumerate_list p'.isList fun h' he hit hsz hk => wpAny_pyIter_enum he ?_
      exact ⟨s1.heap.objs.size + 1, [s1.heap.objs.size + 1, s1.heap.objs.size], _, _, H1, rfl, I1.kept (t' := s1.toks) hk, turn_enum a (s1.heap.objs.size + 1) s1.heap.objs.size, ⟨⟨.none, he⟩, hit, Nat.succ_ne_self _⟩, fp, q⟩
    · obtain ⟨its, rv, p', hz⟩ := I1.tuple hq
      obtain ⟨o1, ho1, _⟩ := id p'
      have hlt := Heap.lt_size ho1
      refine call_enumT (show s1.heap.IsTuple a its.toArray from p') fun h' he hit hsz hk => wpAny_pyIter_enum he ?_
      exact ⟨s1.heap.objs.size + 1, [s1.heap.objs.size + 1, s1.heap.objs.size], _, _, H1, rfl, I1.kept (t' := s1.toks) hk, turn_enumT a (s1.heap.objs.size + 1) s1.heap.objs.size (Nat.ne_of_lt hlt) (Nat.ne_of_gt (Nat.lt_succ_of_lt hlt)), ⟨⟨.none, he⟩, hit, Nat.succ_ne_self _⟩, fp, q⟩
/-! ### t[::-1] of a tuple -/
section
open HT
variable {prog : Program} {w : World} {A : Around} {E : Value → Shared → Prop} {s : Shared}
theorem adjust_rev (n : Nat) : Builtin.Slice.sliceAdjust none none (-1) (n : Int) = ((n : Int) - 1, -1) := by
  unfold Builtin.Slice.sliceAdjust
  simp
theorem places_rev (n : Nat) : Builtin.Slice.slicePlaces ((n : Int) - 1) (-1) (-1) = n := by
  unfold Builtin.Slice.slicePlaces
  simp
  try omega
theorem sliceApplied_rev {sl : Addr} {vs : Value} {n : Nat} {Q : Int × Int × Nat → Shared → Prop} (hs : s.heap.IsSliceOf sl .none .none vs) (ps : IsPart vs (some (-1))) (h : Q ((n : Int) - 1, -1, n) s) :
    wpAny (model prog w) A (Builtin.Slice.sliceApplied (.ref sl) (pure (n : Int))) Q E s := by
  obtain ⟨os, hos, hcs, hds⟩ := id hs
  unfold Builtin.Slice.sliceApplied Builtin.Slice.sliceFields
  refine wpAny_bind (wpAny_bind (wpAny_field hos hds (x := .none) rfl (wpAny_bind (wpAny_field hos hds (x := .none) rfl (wpAny_bind (wpAny_field hos hds (x := vs) rfl (wpAny_pure ?_)))))))
  refine wpAny_bind (slicePart_ ps ?_)
  show wpAny _ _ (if ((-1 : Int) == 0) = true then _ else _) _ _ s
  rw [if_neg (by decide)]
  refine wpAny_bind (slicePart_ .none (wpAny_bind (slicePart_ .none (wpAny_bind (wpAny_pure ?_)))))
  show wpAny _ _ (match Builtin.Slice.sliceAdjust none none (-1) (n : Int) with | (lo, hi) => pure (lo, (-1 : Int), Builtin.Slice.slicePlaces lo hi (-1))) _ _ s
  rw [adjust_rev n]
  show wpAny _ _ (pure ((n : Int) - 1, (-1 : Int), Builtin.Slice.slicePlaces ((n : Int) - 1) (-1) (-1))) _ _ s
  rw [places_rev]
  exact wpAny_pure h
theorem pick_rev (xs : Array Value) : ((List.range xs.size).filterMap fun (m : Nat) => xs[((xs.size : Int) - 1 + (m : Int) * (-1)).toNat]?).toArray = xs.toList.reverse.toArray := by
  have e : (fun (m : Nat) => xs[((xs.size : Int) - 1 + (m : Int) * (-1)).toNat]?) = (fun (j : Nat) => xs[j]?) ∘ fun (m : Nat) => ((xs.size : Int) - 1 + (m : Int) * (-1)).toNat := rfl
  rw [e, ← List.filterMap_map]
  have e2 : (List.range xs.size).map (fun (m : Nat) => ((xs.size : Int) - 1 + (m : Int) * (-1)).toNat) = (List.range xs.size).map fun k => xs.size - 1 - k := by
    apply List.map_congr_left
    intro k hk
    have := List.mem_range.mp hk
    omega
  rw [e2, PySem.W.krv_range, List.filterMap_reverse, PySem.W.krv_all]
theorem getItem_revT {t sl : Addr} {items : Array Value} {vs : Value} {Q : Value → Shared → Prop} (ht : IsTup s.heap t items) (hs : s.heap.IsSliceOf sl .none .none vs) (ps : IsPart vs (some (-1)))
    (h : Q (.ref s.heap.objs.size) { s with heap := s.heap.push { cls := .type "tuple", data := .seq items.toList.reverse.toArray } }) (hsz : items.size ≤ sizeLine) : wpAny (model prog w) A (getItem (.ref t) (.ref sl)) Q E s := by
  obtain ⟨os, hos, hcs, hds⟩ := id hs
  have hTs : s.TypeIs (.ref sl) "slice" := ⟨os, hos, hcs⟩
  have hok : sizeOk (.seq items.toList.reverse.toArray) := by
    show items.toList.reverse.toArray.size ≤ sizeLine
    rw [List.size_toArray, List.length_reverse, Array.length_toList]
    exact hsz
  unfold getItem
  try with_reducible refine wpAny_holding ?_
  first | refine wpAny_bind (wpAny_pure ?_) | skip
  refine wpAny_bind (wpAny_sequenceKey ht.typeIs (by decide) ?_)
  refine wpAny_bind (wpAny_callSpecial?_slot (name := Str.ofString "__getitem__") ht.typeIs PyProof.Rows.slot_tuple_getitem (wpAny_call_entry PyProof.Rows.slot_tuple_getitem ht.typeIs entry_tuple_getitem ?_ (args_tuple_getitem _ _)))
  show wpAny _ _ (Builtin.Tuple.tupleItemsOf (.ref t) >>= _) _ _ s
  refine wpAny_bind (tupleItemsOf_ ht ?_)
  refine wpAny_bind (wpAny_typeOf hTs ?_)
  rw [if_pos (by decide)]
  refine wpAny_bind (sliceApplied_rev hs ps ?_)
  show wpAny _ _ (if (((items.size : Int) - 1 == 0 && (-1 : Int) == 1 && items.size == items.size) = true) then _ else _) _ _ s
  rw [if_neg (by rw [show ((-1 : Int) == 1) = false by decide, Bool.and_false, Bool.false_and]; exact Bool.false_ne_true), pick_rev]
  first
    | exact wpAny_bind (m := Builtin.Tuple.tupleExact _) (wpAny_newObj_type (wpAny_pure ⟨_, rfl, wpAny_pure h⟩) hok)
    | exact wpAny_bind (m := Builtin.Tuple.tupleExact _) (wpAny_newObj_type (wpAny_bind (wpAny_pure (wpAny_pure ⟨_, rfl, wpAny_pure h⟩))) hok)
    | exact wpAny_bind (wpAny_bind (m := Builtin.Tuple.tupleExact _) (wpAny_newObj_type (wpAny_pure (wpAny_pure ⟨_, rfl, wpAny_pure h⟩)) hok))
    | exact wpAny_bind (wpAny_bind (m := Builtin.Tuple.tupleExact _) (wpAny_newObj_type (wpAny_pure ⟨_, rfl, wpAny_pure h⟩) hok))
end
def tRevA (K : PySem.W.Frag) (te : TE) : TE := fun σ H Q => te σ H fun x H1 => ∃ a xs, x = .ref a ∧ ((SqL K H1 a xs ∧ ∀ p, H1 p = none → Q (.ref p) (upd H1 p (.lst xs.reverse))) ∨ (SqT K H1 a xs ∧ ∀ p, H1 p = none → Q (.ref p) (upd H1 p (.tup xs.reverse))))
theorem pe_revA {X : Cx} {e : Expr} {te : TE} {k : Nat} {p1 p2 p3 pos : Pos} (he : PE X e te) : PE X (.Subscript e (.Slice none none (some (.UnaryOp .USub (.Constant (.int 1) k p1) p2)) p3) pos) (tRevA X.K te) := by
  refine ⟨fun pins s σ H Q I h => ?_⟩
  refine Subscript_ (thn (he.run pins s σ H _ I h) fun v s1 ⟨x, H1, I1, r1, q1⟩ => ?_)
  obtain ⟨a, xs, ex, q⟩ := q1
  subst ex
  cases r1
  have hst : PO X (some (.UnaryOp .USub (.Constant (.int 1) k p1) p2)) (tPart (tUn (rU fun i => .int (-i)) (tC (.int 1)))) := po_some (pe_un un_neg pe_int)
  refine wpAny_Slice (thn (po_none.run pins s1 σ H1 (fun o H2 => o = none ∧ H2 = H1) I1 ⟨rfl, rfl⟩) fun vl s2 ⟨l, H2, I2, pl, el, e2⟩ => ?_)
  subst el e2
  refine thn (po_none.run pins s2 σ H2 (fun o H3 => o = none ∧ H3 = H2) I2 ⟨rfl, rfl⟩) fun vu s3 ⟨u, H3, I3, pu, eu, e3⟩ => ?_
  subst eu e3
  refine thn (hst.run pins s3 σ H3 (fun o H4 => o = some (-1) ∧ H4 = H3) I3 ⟨1, rfl, -1, rfl, rfl, rfl⟩) fun vs s4 ⟨o, H4, I4, ps, eo, e4⟩ => ?_
  subst eo e4
  have I5 : Inv X pins σ H4 { s4 with heap := s4.heap.push { cls := .type "slice", data := .fields #[vl, vu, vs] } } := I4.kept (t' := s4.toks) fun b ob q => Heap.get?_push_of_some _ q
  cases pl
  cases pu
  show wpAny (model X.prog X.w) X.A (subscriptTail e (.Slice none none (some (.UnaryOp .USub (.Constant (.int 1) k p1) p2)) p3) (.ref a) (.ref s4.heap.objs.size)) (EP X pins σ Q) X.xe { s4 with heap := s4.heap.push { cls := .type "slice", data := .fields #[.none, .none, vs] } }
  rcases q with ⟨hx, q⟩ | ⟨hx, q⟩
  · obtain ⟨its, r, ht, hz⟩ := I5.list hx
    have hlen := r.length
    refine tail_any (ops := [.ref a, .ref s4.heap.objs.size]) ht.isList.typeIs (PySem.slot_list_getitem.lookup) ?_ (by with_unfolding_all rfl)
    refine wpAny_getItem_list_slice ht.isList (Heap.IsSliceOf.new _ .none .none vs) .none .none ps (by decide) ?_ (by rw [List.size_toArray]; omega)
    rw [PySem.W.krv_pick]
    refine ⟨.ref _, _, I5.laid (t' := s4.toks) (o := .lst xs.reverse) (fun b ob q => Heap.get?_push_of_some _ q) (Nat.le_refl _) ?_, rfl, q _ (I5.hok.fresh (Nat.le_refl _))⟩
    exact ⟨by rw [List.length_reverse]; exact hz, _, 0, r.reverse, Heap.get?_push_size _ rfl⟩
  · obtain ⟨its, r, ht, hz⟩ := I5.tuple hx
    have hlen := r.length
    refine tail_any (ops := [.ref a, .ref s4.heap.objs.size]) ht.typeIs (PyProof.Rows.slot_tuple_getitem.lookup) ?_ (by with_unfolding_all rfl)
    refine getItem_revT ht (Heap.IsSliceOf.new _ .none .none vs) ps ?_ (by rw [List.size_toArray]; omega)
    refine ⟨.ref _, _, I5.laid (t' := s4.toks) (o := .tup xs.reverse) (fun b ob q => Heap.get?_push_of_some _ q) (Nat.le_refl _) ?_, rfl, q _ (I5.hok.fresh (Nat.le_refl _))⟩
    exact ⟨by rw [List.length_reverse]; exact hz, _, r.reverse, IsTup.new _ _⟩
end Pd

/-! That a Python term is said by the short syntax; what the readings are. -/
namespace Pd
open L2 PyProof.Rows PySem.Spec PySem

/-! ### scopes -/
def visC (sc : Scope) (x : Str) : Bool := (match sc.names.lookup x with
  | some .local => true
  | some .cell => true
  | some .free => true
  | _ => false) && !(x == ("__debug__" : Str)) && !(x == ("__classdict__" : Str))
def locC (sc : Scope) (x : Str) : Bool := (match sc.names.lookup x with
  | some .local => true
  | some .cell => true
  | _ => false)
def glC (sc : Scope) (x : Str) : Bool := (match sc.names.lookup x with
  | some .globalImplicit => true
  | _ => false) && !(x == ("__debug__" : Str))
theorem visC_ok {sc : Scope} {x : Str} (h : visC sc x = true) : Vis sc x ∧ (x == ("__debug__" : Str)) = false ∧ (x == ("__classdict__" : Str)) = false := by
  unfold visC at h
  simp only [Bool.and_eq_true, Bool.not_eq_true'] at h
  obtain ⟨⟨h1, h2⟩, h3⟩ := h
  refine ⟨?_, h2, h3⟩
  split at h1
  · exact .inl (by assumption)
  · exact .inr (.inl (by assumption))
  · exact .inr (.inr (by assumption))
  · cases h1
theorem locC_ok {sc : Scope} {x : Str} (h : locC sc x = true) : Loc sc x := by
  unfold locC at h
  split at h
  · exact .inl (by assumption)
  · exact .inr (by assumption)
  · cases h
theorem glC_ok {sc : Scope} {x : Str} (h : glC sc x = true) : sc.names.lookup x = some .globalImplicit ∧ (x == ("__debug__" : Str)) = false := by
  unfold glC at h
  simp only [Bool.and_eq_true, Bool.not_eq_true'] at h
  obtain ⟨h1, h2⟩ := h
  refine ⟨?_, h2⟩
  split at h1
  · assumption
  · cases h1

/-! ### terms -/
structure Mx where
  tb : Tb
  k : Nat
  N : List Str
  gi : Str → Option Int
def opB : BO → Operator → Bool
  | .add, .Add => true
  | .sub, .Sub => true
  | .mul, .Mult => true
  | .fdiv, .FloorDiv => true
  | .mod, .Mod => true
  | _, _ => false
theorem opB_ok {o : BO} {p : Operator} (h : opB o p = true) : p = boOp o := by
  cases o <;> cases p <;> first | rfl | (simp [opB] at h)
def opC : CO → CmpOp → Bool
  | .eq, .Eq => true
  | .ne, .NotEq => true
  | .lt, .Lt => true
  | .le, .LtE => true
  | .gt, .Gt => true
  | .ge, .GtE => true
  | .in_, .In => true
  | .nin, .NotIn => true
  | _, _ => false
theorem opC_ok {o : CO} {p : CmpOp} (h : opC o p = true) : p = coOp o := by
  cases o <;> cases p <;> first | rfl | (simp [opC] at h)
def notSet : Expr → Bool
  | .Set .. => false
  | _ => true
theorem notSet_mark {e : Expr} (h : notSet e = true) (op : CmpOp) : behindInMarks op e = false := by
  cases e <;> first | rfl | (simp [notSet] at h)
/-- names of slots -/
def mNames (N : List Str) (sc : Scope) : List Nat → List Expr → Bool
  | [], [] => true
  | i :: is, .Name x _ :: es => decide (N[i]? = some x) && locC sc x && mNames N sc is es
  | _, _ => false
def ownOf : List Nat → List Expr → List (Str × Nat)
  | i :: is, .Name x _ :: es => (x, i) :: ownOf is es
  | _, _ => []
def tgNames (tp : Bool) (tg : Expr) : List Expr := match tp, tg with
  | false, e => [e]
  | true, .Tuple es _ _ => es
  | true, _ => []
def mTgt (N : List Str) (sc : Scope) (is : List Nat) (tp : Bool) (tg : Expr) : Bool := (match tp, tg with
  | false, .Name .. => is.length == 1
  | true, .Tuple .. => true
  | _, _ => false) && mNames N sc is (tgNames tp tg) && decide is.Nodup

/-- pairs want a target of several names -/
def itTg : E → Expr → Bool
  | .zip _, .Tuple .. => true
  | .zip _, _ => false
  | .enm _, .Tuple .. => true
  | .enm _, _ => false
  | _, _ => true
/-- an expression whose truth is its value's -/
def tstOk : Expr → Bool
  | .BoolOp .. => false
  | .IfExp .. => false
  | .UnaryOp .Not _ _ => false
  | _ => true
mutual
def mE (M : Mx) : E → Scope → Expr → Bool
  | .var i, sc, py => match py with
    | .Name x _ => decide (M.N[i]? = some x) && visC sc x
    | _ => false
  | .int i, _, py => match py with
    | .Constant (.int j) _ _ => decide (i = j)
    | _ => false
  | .bl b, _, py => match py with
    | .Constant (.bool c) _ _ => b == c
    | _ => false
  | .non, _, py => match py with
    | .Constant .none _ _ => true
    | _ => false
  | .str s, _, py => match py with
    | .Constant (.str t) _ _ => decide (s = t)
    | _ => false
  | .fnv n, sc, py => match py with
    | .Name x _ => decide (M.tb.fnm n = x) && glC sc x && decide (M.tb.lv n < M.k)
    | _ => false
  | .gint x i, sc, py => match py with
    | .Name y _ => decide (x = y) && glC sc x && decide (M.gi x = some i)
    | _ => false
  | .bin o a b, sc, py => match py with
    | .BinOp pa op pb _ => opB o op && mE M a sc pa && mE M b sc pb
    | _ => false
  | .neg a, sc, py => match py with
    | .UnaryOp .USub pa _ => mE M a sc pa
    | _ => false
  | .not a, sc, py => match py with
    | .UnaryOp .Not pa _ => mE M a sc pa
    | _ => false
  | .cmp o a b, sc, py => match py with
    | .Compare pa [op] [pb] _ => opC o op && mE M a sc pa && mE M b sc pb && notSet pb
    | _ => false
  | .chn o o' a b c, sc, py => match py with
    | .Compare pa [op, op'] [pb, pc] _ => opC o op && opC o' op' && mE M a sc pa && mE M b sc pb && mE M c sc pc && notSet pb && notSet pc
    | _ => false
  | .isn a, sc, py => match py with
    | .Compare pa [.Is] [.Constant .none _ _] _ => mE M a sc pa
    | _ => false
  | .ntn a, sc, py => match py with
    | .Compare pa [.IsNot] [.Constant .none _ _] _ => mE M a sc pa
    | _ => false
  | .and es, sc, py => match py with
    | .BoolOp .And pes _ => mA M es sc pes && !pes.isEmpty
    | _ => false
  | .or es, sc, py => match py with
    | .BoolOp .Or pes _ => mA M es sc pes && !pes.isEmpty
    | _ => false
  | .ite c a b, sc, py => match py with
    | .IfExp pc pa pb _ => mT M c sc pc && mE M a sc pa && mE M b sc pb
    | _ => false
  | .tup es, sc, py => match py with
    | .Tuple pes _ _ => mA M es sc pes && decide (pes.length ≤ 1000)
    | _ => false
  | .lst es, sc, py => match py with
    | .List pes _ => mA M es sc pes && decide (pes.length ≤ 1000)
    | _ => false
  | .call n es, sc, py => match py with
    | .Call (.Name x _) pes [] _ => decide (M.tb.fnm n = x) && glC sc x && mA M es sc pes && decide (M.tb.lv n < M.k) && !M.tb.io n
    | _ => false
  | .cio n i es, sc, py => match py with
    | .Call (.Name x _) (.Name y _ :: pes) [] _ => decide (M.tb.fnm n = x) && glC sc x && decide (M.N[i]? = some y) && visC sc y && mA M es sc pes && decide (M.tb.lv n < M.k) && M.tb.io n && !M.tb.fr n
    | _ => false
  | .clv i es, sc, py => match py with
    | .Call (.Name x _) pes [] _ => decide (M.N[i]? = some x) && visC sc x && mA M es sc pes && !pes.isEmpty
    | _ => false
  | .blt f es, sc, py => match py with
    | .Call (.Name x _) pes [] _ => decide (bfName f = x) && glC sc x && mA M es sc pes && !pes.isEmpty
    | _ => false
  | .isi a T, sc, py => match py with
    | .Call (.Name x _) [pa, .Name t _] [] _ => decide (x = ("isinstance" : Str)) && glC sc x && mE M a sc pa && decide (t = tyName T) && glC sc t
    | _ => false
  | .ix a b, sc, py => match py with
    | .Subscript pa pb _ => mE M a sc pa && mE M b sc pb
    | _ => false
  | .slc a lo hi, sc, py => match py with
    | .Subscript pa (.Slice plo phi none _) _ => mE M a sc pa && mA M lo sc plo.toList && mA M hi sc phi.toList
    | _ => false
  | .rev a, sc, py => match py with
    | .Subscript pa (.Slice none none (some (.UnaryOp .USub (.Constant (.int 1) _ _) _)) _) _ => mE M a sc pa
    | _ => false
  | .lrng es, sc, py => match py with
    | .Call (.Name x _) [.Call (.Name y _) pes [] _] [] _ => decide (x = ("list" : Str)) && glC sc x && decide (y = ("range" : Str)) && glC sc y && mA M es sc pes && (pes.length == 1 || pes.length == 2)
    | _ => false
  | .lc is tp it c elt, sc, py => match py with
    | .ListComp pelt [⟨tg, piter, ifs, 0⟩] scope _ => mTgt M.N scope is tp tg && blkC M.N sc scope (ownOf is (tgNames tp tg)) && (mI M it sc piter && itTg it tg) && mC M c (relS scope sc) ifs &&
        mE M elt (relS scope sc) pelt
    | _ => false
  | .met _ _ _, _, _ => false
  | .nil, _, _ => false
  | .cons _ _, _, _ => false
  | .tst _, _, _ => false
  | .rng _, _, _ => false
  | .seq _, _, _ => false
  | .zip _, _, _ => false
  | .enm _, _, _ => false
  | .sow _, _, _ => false
termination_by structural e => e
/-- lists of values -/
def mA (M : Mx) : E → Scope → List Expr → Bool
  | .nil, _, pes => pes.isEmpty
  | .cons e es, sc, pes => match pes with
    | p :: ps => mE M e sc p && mA M es sc ps
    | [] => false
  | _, _, _ => false
termination_by structural e => e
/-- the test of a comprehension, or none -/
def mC (M : Mx) : E → Scope → List Expr → Bool
  | .nil, _, pes => pes.isEmpty
  | .tst e, sc, pes => match pes with
    | [p] => tstOk p && mE M e sc p
    | _ => false
  | _, _, _ => false
termination_by structural e => e
def mT (M : Mx) : E → Scope → Expr → Bool
  | .tst e, sc, py => tstOk py && mE M e sc py
  | .not a, sc, py => match py with
    | .UnaryOp .Not pa _ => mT M a sc pa
    | _ => false
  | .and es, sc, py => match py with
    | .BoolOp .And pes _ => mTs M es sc pes && !pes.isEmpty
    | _ => false
  | .or es, sc, py => match py with
    | .BoolOp .Or pes _ => mTs M es sc pes && !pes.isEmpty
    | _ => false
  | _, _, _ => false
termination_by structural e => e
def mTs (M : Mx) : E → Scope → List Expr → Bool
  | .nil, _, pes => pes.isEmpty
  | .cons e es, sc, pes => match pes with
    | p :: ps => mT M e sc p && mTs M es sc ps
    | [] => false
  | _, _, _ => false
termination_by structural e => e
def mI (M : Mx) : E → Scope → Expr → Bool
  | .rng es, sc, py => match py with
    | .Call (.Name y _) pes [] _ => decide (y = ("range" : Str)) && glC sc y && mA M es sc pes && (pes.length == 1 || pes.length == 2)
    | _ => false
  | .seq e, sc, py => notSet py && mE M e sc py
  | .zip es, sc, py => match py with
    | .Call (.Name y _) pes [] _ => decide (y = ("zip" : Str)) && glC sc y && mA M es sc pes && pes.length == 2
    | _ => false
  | .enm es, sc, py => match py with
    | .Call (.Name y _) pes [] _ => decide (y = ("enumerate" : Str)) && glC sc y && mA M es sc pes && pes.length == 1
    | _ => false
  | .sow i, sc, py => match py with
    | .Name x _ => decide (M.N[i]? = some x) && visC sc x
    | _ => false
  | _, _, _ => false
termination_by structural e => e
end
end Pd

/-! Readings over data, and that they are readings of the terms: expressions. -/
namespace Pd
open L2 PyProof.Rows PySem.Spec PySem

abbrev rcOf (G : Gx) (X : Cx) : RC := ⟨X.K, X.mg, G.tb.fnm, fun _ => ("" : Str), fun _ => []⟩
abbrev mxOf (G : Gx) (gi : Str → Option Int) (X : Cx) : Mx := ⟨G.tb, G.k, X.N, gi⟩
/-- an exception of the program, by its class and its own dict -/
def XRep (mg : Str → Option Value) (H : Hp) (c : Value) (dd : Option Addr) : Exn → Prop
  | .mal => mg "Malformed" = some c ∧ dd = none
  | .ref r => mg "Refused" = some c ∧ ∃ (a : Addr) (fs : List (Str × V)), dd = some a ∧ H a = some (.xd fs) ∧ fs.lookup ("reason" : Str) = some (V.str r)
  | .nt i => mg "NoText" = some c ∧ ∃ (a : Addr) (fs : List (Str × V)), dd = some a ∧ H a = some (.xd fs) ∧ fs.lookup ("at" : Str) = some (V.int i)
/-- the promise of a def, by what is said of data -/
def toSp (R : RC) (io fr : Bool) (S : Spec) : Sp := fun vs H Q E => ∃ (Z : Addr → Prop) (ds : List D) (P : D → D → Prop) (Ex : Exn → Prop), (∀ b, Z b → ∃ o, H b = some o) ∧ S ds P Ex ∧
  (io = false → Reps R (hz Z H) vs ds ∧ (∀ d e v H', P d e → Same H H' → Rep R (hz Z H') v d → (fr = true → isMut d = true → ∃ p, v = .ref p ∧ H p = none ∧ (∃ o, H' p = some o) ∧ RepO R H' (hz (zx Z p) H') p d) → Q v H') ∧
    ∀ x c dd H', Ex x → Same H H' → XRep R.mg H' c dd x → E c dd H') ∧
  (io = true → ∃ a vs' d0 ds', vs = .ref a :: vs' ∧ ds = d0 :: ds' ∧ Z a ∧ RepO R H (hz Z H) a d0 ∧ Reps R (hz Z H) vs' ds' ∧
    (∀ d d1 v H', P d d1 → (∀ b o, b ≠ a → H b = some o → H' b = some o) → Rep R (hz Z H') v d → RepO R H' (hz Z H') a d1 → Q v H') ∧ ∀ x, ¬ Ex x)

/-- what is known of the place where a term stands -/
structure Cok (G : Gx) (gi : Str → Option Int) (X : Cx) (W : WX) : Prop where
  nd : X.N.Nodup
  calm : X.calm = true
  room : ∀ j, j < G.k → Room j X.A
  units : X.A.units + 64 < cLine
  tk : Takes X W
  bf : ∀ f, X.mg (bfName f) = none
  ty : ∀ t, X.mg (tyName t) = none
  isi : X.mg "isinstance" = none
  rng : X.mg "range" = none
  zip : X.mg "zip" = none
  enm : X.mg "enumerate" = none
  gi : ∀ x i, gi x = some i → ∃ t, X.mg x = some (.int i t)
  fns : ∀ n, G.tb.lv n < G.k → ∃ f fd ps, X.mg (G.tb.fnm n) = some (.ref f) ∧ PySem.W.keepIn X.K (.ref f) = true ∧ FnOk X.prog X.w X.K X.mg X.base (L2.CX X.prog X.w) (G.tb.lv n) f fd ps (toSp (rcOf G X) (G.tb.io n) (G.tb.fr n) (G.sp n)) ∧ Binds X.K fd ps []

/-- the wish about exceptions, from here on -/
abbrev Xq := Exn → Loca → Prop
def Lk (R : RC) (Z : Addr → Prop) (H0 : Hp) (io : Option (Nat × Addr)) (W : WX) (σ : Sg) (H : Hp) (env : Loca) (Xd : Xq) : Prop :=
  ∀ x env' c dd H', ER R Z H0 io σ H' env' → Mono σ H env σ H' env' → XRep R.mg H' c dd x → Xd x env' → W c dd σ H'
theorem Lk.step {R : RC} {Z : Addr → Prop} {H0 : Hp} {io : Option (Nat × Addr)} {W : WX} {σ : Sg} {H H1 : Hp} {env env1 : Loca} {Xd : Xq} (l : Lk R Z H0 io W σ H env Xd) (m : Mono σ H env σ H1 env1) : Lk R Z H0 io W σ H1 env1 Xd :=
  fun x env' c dd H' r n k w => l x env' c dd H' r (m.trans n) k w

def tE (G : Gx) (X : Cx) (W : WX) (e : E) : TE := fun σ H Q => ∃ (Z : Addr → Prop) (H0 : Hp) (io : Option (Nat × Addr)) (env : Loca) (Qd : D → Loca → Prop) (Xd : Xq),
  G.iop = io.map (·.1) ∧ ER (rcOf G X) Z H0 io σ H env ∧ Lk (rcOf G X) Z H0 io W σ H env Xd ∧ wE G e env Qd Xd ∧
  ∀ d env' v H', ER (rcOf G X) Z H0 io σ H' env' → Mono σ H env σ H' env' → Rep (rcOf G X) (hid Z σ env' H') v d →
    (frE G.tb e = true → isMut d = true → ∃ p, v = .ref p ∧ Fri (rcOf G X) Z H0 io H σ H' env' p d) → Qd d env' → Q v H'
def OpR (R : RC) (Z : Addr → Prop) (σ : Sg) (H : Hp) (env : Loca) (v : V) : Op → Prop
  | .dat d => Rep R (hid Z σ env H) v d
  | .slot i => σ[i]? = some (some v)
def tP (G : Gx) (X : Cx) (W : WX) (e : E) : TE := fun σ H Q => ∃ (Z : Addr → Prop) (H0 : Hp) (io : Option (Nat × Addr)) (env : Loca) (Qd : Op → Loca → Prop) (Xd : Xq),
  G.iop = io.map (·.1) ∧ ER (rcOf G X) Z H0 io σ H env ∧ Lk (rcOf G X) Z H0 io W σ H env Xd ∧ pk e (wE G e) env Qd Xd ∧
  ∀ o env' v H', ER (rcOf G X) Z H0 io σ H' env' → Mono σ H env σ H' env' → OpR (rcOf G X) Z σ H' env' v o → Qd o env' → Q v H'
def tA (G : Gx) (X : Cx) (W : WX) (e : E) : TA := fun σ H Q => ∃ (Z : Addr → Prop) (H0 : Hp) (io : Option (Nat × Addr)) (env : Loca) (Qd : List D → Loca → Prop) (Xd : Xq),
  G.iop = io.map (·.1) ∧ ER (rcOf G X) Z H0 io σ H env ∧ Lk (rcOf G X) Z H0 io W σ H env Xd ∧ wA G e env Qd Xd ∧
  ∀ ds env' vs H', ER (rcOf G X) Z H0 io σ H' env' → Mono σ H env σ H' env' → Reps (rcOf G X) (hid Z σ env' H') vs ds → ds.length = lnE e → Qd ds env' → Q vs H'
inductive OpRs (R : RC) (Z : Addr → Prop) (σ : Sg) (H : Hp) (env : Loca) : List V → List Op → Prop
  | nil : OpRs R Z σ H env [] []
  | cons {v : V} {o : Op} {vs : List V} {os : List Op} : OpR R Z σ H env v o → OpRs R Z σ H env vs os → OpRs R Z σ H env (v :: vs) (o :: os)
def tPs (G : Gx) (X : Cx) (W : WX) (e : E) : TA := fun σ H Q => ∃ (Z : Addr → Prop) (H0 : Hp) (io : Option (Nat × Addr)) (env : Loca) (Qd : List Op → Loca → Prop) (Xd : Xq),
  G.iop = io.map (·.1) ∧ ER (rcOf G X) Z H0 io σ H env ∧ Lk (rcOf G X) Z H0 io W σ H env Xd ∧ wP G e env Qd Xd ∧
  ∀ ds env' vs H', ER (rcOf G X) Z H0 io σ H' env' → Mono σ H env σ H' env' → OpRs (rcOf G X) Z σ H' env' vs ds → Qd ds env' → Q vs H'
abbrev Wt := Loca → (Bool → Loca → Prop) → Xq → Prop
def tT (G : Gx) (X : Cx) (W : WX) (f : Wt) : TT := fun σ H Q => ∃ (Z : Addr → Prop) (H0 : Hp) (io : Option (Nat × Addr)) (env : Loca) (Qd : Bool → Loca → Prop) (Xd : Xq),
  G.iop = io.map (·.1) ∧ ER (rcOf G X) Z H0 io σ H env ∧ Lk (rcOf G X) Z H0 io W σ H env Xd ∧ f env Qd Xd ∧
  ∀ d env' H', ER (rcOf G X) Z H0 io σ H' env' → Mono σ H env σ H' env' → Qd d env' → Q d H'

theorem _root_.L2.PE.imp {X : Cx} {e : Expr} {t t' : TE} (h : PE X e t) (i : ∀ σ H Q, t' σ H Q → t σ H Q) : PE X e t' := ⟨fun pins s σ H Q I w => h.run pins s σ H Q I (i σ H Q w)⟩
theorem _root_.L2.PT.imp {X : Cx} {e : Expr} {t t' : TT} (h : PT X e t) (i : ∀ σ H Q, t' σ H Q → t σ H Q) : PT X e t' := ⟨fun pins s σ H Q I w => h.run pins s σ H Q I (i σ H Q w)⟩
theorem _root_.L2.PA.imp {X : Cx} {e : List Expr} {t t' : TA} (h : PA X e t) (i : ∀ σ H Q, t' σ H Q → t σ H Q) : PA X e t' := ⟨fun pos pins s σ H Q I w => h.run pos pins s σ H Q I (i σ H Q w)⟩
theorem _root_.L2.PS.imp {X : Cx} {e : Stmt} {t t' : TS} (h : PS X e t) (i : ∀ D σ H, t' D σ H → t D σ H) : PS X e t' := ⟨fun pins s σ H Q I w => h.run pins s σ H Q I (i Q σ H w)⟩
theorem _root_.L2.PSs.imp {X : Cx} {e : List Stmt} {t t' : TS} (h : PSs X e t) (i : ∀ D σ H, t' D σ H → t D σ H) : PSs X e t' := ⟨fun pins s σ H Q I w => h.run pins s σ H Q I (i Q σ H w)⟩

/-- an operand, read later -/
theorem OpR.prep {R : RC} {Z : Addr → Prop} {H0 : Hp} {io : Option (Nat × Addr)} {σ : Sg} {H1 H2 : Hp} {env1 env2 : Loca} {v : V} {o : Op} (h : OpR R Z σ H1 env1 v o) (m : Mono σ H1 env1 σ H2 env2) (r : ER R Z H0 io σ H2 env2) :
    PRep R H2 (hid Z σ env2 H2) v (o.rd env2) := by
  cases o with
  | dat d => exact .rep (Rep.mono m.see h)
  | slot i =>
    have h : σ[i]? = some (some v) := h
    show PRep _ _ _ v (at_ env2 i).datum
    cases hc : at_ env2 i with
    | emp => exact .junk
    | val d =>
      obtain ⟨u, e1, q⟩ := r.cell i d (at_some hc (by intro z; cases z))
      rw [h] at e1; cases e1
      exact .rep q
    | own d =>
      obtain ⟨a, e1, q⟩ := r.own i d (at_some hc (by intro z; cases z))
      rw [h] at e1; cases e1
      exact .own q
theorem OpRs.preps {R : RC} {Z : Addr → Prop} {H0 : Hp} {io : Option (Nat × Addr)} {σ : Sg} {H2 : Hp} {env2 : Loca} (r : ER R Z H0 io σ H2 env2) : ∀ {vs : List V} {os : List Op}, OpRs R Z σ H2 env2 vs os → PReps R H2 (hid Z σ env2 H2) vs (os.map fun o => o.rd env2)
  | _, _, .nil => .nil
  | _, _, .cons h t => .cons (h.prep .refl r) (OpRs.preps r t)
theorem OpRs.mono {R : RC} {Z : Addr → Prop} {σ : Sg} {H1 H2 : Hp} {env1 env2 : Loca} (m : Mono σ H1 env1 σ H2 env2) : ∀ {vs : List V} {os : List Op}, OpRs R Z σ H1 env1 vs os → OpRs R Z σ H2 env2 vs os
  | _, _, .nil => .nil
  | _, _, .cons (o := .dat d) h t => .cons (Rep.mono m.see (show Rep _ _ _ _ from h)) (OpRs.mono m t)
  | _, _, .cons (o := .slot i) h t => .cons (show σ[i]? = some (some _) from h) (OpRs.mono m t)

section
variable {G : Gx} {gi : Str → Option Int} {X : Cx} {W : WX}

/-! ### names -/
theorem s_varP {i : Nat} {x : Str} {pos : Pos} (hN : X.N[i]? = some x) (hv : visC X.env.scope x = true) : PE X (.Name x pos) (tP G X W (.var i)) := by
  obtain ⟨h1, h2, h3⟩ := visC_ok hv
  refine L2.PE.imp (pe_var hN h1 h2 h3) ?_
  rintro σ H Q ⟨Z, H0, io, env, Qd, Xd, hio, er, lk, w, fin⟩
  unfold pk at w
  dsimp only at w
  cases hc : at_ env i with
  | emp => rw [hc] at w; exact w.elim
  | val d =>
    rw [hc] at w
    obtain ⟨u, e1, q⟩ := er.cell i d (at_some hc (by intro z; cases z))
    exact ⟨u, e1, fin (.dat d) env u H er .refl q w⟩
  | own d =>
    rw [hc] at w
    obtain ⟨a, e1, q⟩ := er.own i d (at_some hc (by intro z; cases z))
    exact ⟨.ref a, e1, fin (.slot i) env (.ref a) H er .refl e1 w⟩
theorem s_var {i : Nat} {x : Str} {pos : Pos} (hN : X.N[i]? = some x) (hv : visC X.env.scope x = true) : PE X (.Name x pos) (tE G X W (.var i)) := by
  obtain ⟨h1, h2, h3⟩ := visC_ok hv
  refine L2.PE.imp (pe_var hN h1 h2 h3) ?_
  rintro σ H Q ⟨Z, H0, io, env, Qd, Xd, hio, er, lk, w, fin⟩
  unfold wE at w
  cases hc : at_ env i with
  | emp => rw [hc] at w; exact w.elim
  | val d =>
    rw [hc] at w
    obtain ⟨u, e1, q⟩ := er.cell i d (at_some hc (by intro z; cases z))
    exact ⟨u, e1, fin _ env u H er .refl q (fun z => by cases z) w⟩
  | own d =>
    rw [hc] at w
    obtain ⟨hne, w⟩ := w
    have nio : ∀ a, io ≠ some (i, a) := fun a q => hne (by rw [hio, q]; rfl)
    obtain ⟨er', m, a, e1, q⟩ := er.release (at_some hc (by intro z; cases z)) nio
    exact ⟨.ref a, e1, fin _ _ (.ref a) H er' m q (fun z => by cases z) w⟩
/-- an operand: as a value, or a name -/
theorem s_pk {e : E} {py : Expr} (hp : PE X py (tE G X W e)) (hv : ∀ i, e = .var i → PE X py (tP G X W e)) : PE X py (tP G X W e) := by
  have gen : (∀ env Q Xd, pk e (wE G e) env Q Xd = wE G e env (fun d env' => Q (.dat d) env') Xd) → PE X py (tP G X W e) := fun hpk => by
    refine hp.imp ?_
    rintro σ H Q ⟨Z, H0, io, env, Qd, Xd, hio, er, lk, w, fin⟩
    rw [hpk] at w
    exact ⟨Z, H0, io, env, _, Xd, hio, er, lk, w, fun d env' v H' r m q _ k => fin (.dat d) env' v H' r m q k⟩
  cases e with
  | var i => exact hv i rfl
  | _ => exact gen fun _ _ _ => rfl

/-! ### constants -/
theorem s_const {e : E} {d : D} {x : V} {py : Expr} (hp : PE X py (tC x)) (hw : ∀ env Q Xd, wE G e env Q Xd = Q d env) (hr : ∀ H, Rep (rcOf G X) H x d) (hm : isMut d = false) : PE X py (tE G X W e) := by
  refine hp.imp ?_
  rintro σ H Q ⟨Z, H0, io, env, Qd, Xd, hio, er, lk, w, fin⟩
  rw [hw] at w
  exact fin _ env x H er .refl (hr _) (fun _ h => by rw [hm] at h; cases h) w

/-! ### operators -/
theorem s_bin {o : BO} {a b : E} {pa pb : Expr} {pos : Pos} (ha : PE X pa (tP G X W a)) (hb : PE X pb (tP G X W b)) : PE X (.BinOp pa (boOp o) pb pos) (tE G X W (.bin o a b)) := by
  refine (pe_op (op_binD o) ha hb).imp ?_
  rintro σ H Q ⟨Z, H0, io, env, Qd, Xd, hio, er, lk, w, fin⟩
  unfold wE at w
  refine ⟨Z, H0, io, env, _, Xd, hio, er, lk, w, fun x env1 v1 H1 er1 m1 r1 w1 => ?_⟩
  refine ⟨Z, H0, io, env1, _, Xd, hio, er1, lk.step m1, w1, fun y env2 v2 H2 er2 m2 r2 w2 => ?_⟩
  refine of_bin (Z := Z) er2 (r1.prep m2 er2) (r2.prep .refl er2) w2 fun g v H' k an => ?_
  obtain ⟨a1, a2, a3, a4⟩ := an
  have m := (m1.trans m2).trans a2
  refine fin g env2 v H' a1 m a3 (fun hf hm => ?_) k
  obtain ⟨p, rfl, f⟩ := a4 hf hm
  exact ⟨p, rfl, f.start ((m1.trans m2).free f.hs)⟩
end
end Pd

/-! Soundness of expressions: operators, displays, calls. -/
namespace Pd
open L2 PyProof.Rows PySem.Spec PySem
section
variable {G : Gx} {gi : Str → Option Int} {X : Cx} {W : WX}
theorem fin_ans {R : RC} {Z : Addr → Prop} {H0 : Hp} {io : Option (Nat × Addr)} {σ : Sg} {H H2 H' : Hp} {env env2 : Loca} {fr f : Bool} {Qd : D → Loca → Prop} {Q : VK} {g : D} {v : V} (m : Mono σ H env σ H2 env2)
    (fin : ∀ d env' v H', ER R Z H0 io σ H' env' → Mono σ H env σ H' env' → Rep R (hid Z σ env' H') v d → (fr = true → isMut d = true → ∃ p, v = .ref p ∧ Fri R Z H0 io H σ H' env' p d) → Qd d env' → Q v H')
    (an : Ans R Z H0 io σ H2 env2 f g v H') (hf : fr = true → f = true) (k : Qd g env2) : Q v H' := by
  obtain ⟨a1, a2, a3, a4⟩ := an
  refine fin g env2 v H' a1 (m.trans a2) a3 (fun h1 h2 => ?_) k
  obtain ⟨p, rfl, q⟩ := a4 (hf h1) h2
  exact ⟨p, rfl, q.start (m.free q.hs)⟩
theorem s_neg {a : E} {pa : Expr} {pos : Pos} (ha : PE X pa (tE G X W a)) : PE X (.UnaryOp .USub pa pos) (tE G X W (.neg a)) := by
  refine (pe_un un_neg ha).imp ?_
  rintro σ H Q ⟨Z, H0, io, env, Qd, Xd, hio, er, lk, w, fin⟩
  unfold wE at w
  refine ⟨Z, H0, io, env, _, Xd, hio, er, lk, w, fun x env1 v1 H1 er1 m1 r1 _ w1 => ?_⟩
  cases x with
  | int i =>
    cases r1
    exact ⟨i, rfl, fin_ans m1 fin (.flat er1 (.int _) fun _ => rfl) (fun h => h) w1⟩
  | _ => exact w1.elim
theorem s_not {a : E} {pa : Expr} {pos : Pos} (ha : PE X pa (tE G X W a)) : PE X (.UnaryOp .Not pa pos) (tE G X W (.not a)) := by
  refine (pe_not ha).imp ?_
  rintro σ H Q ⟨Z, H0, io, env, Qd, Xd, hio, er, lk, w, fin⟩
  unfold wE at w
  refine ⟨Z, H0, io, env, _, Xd, hio, er, lk, w, fun x env1 v1 H1 er1 m1 r1 _ w1 => ?_⟩
  cases x with
  | bl i =>
    cases r1
    exact ⟨i, rfl, fin_ans m1 fin (.flat er1 (.bl _) fun _ => rfl) (fun h => h) w1⟩
  | _ => exact w1.elim
theorem s_cmp {o : CO} {a b : E} {pa pb : Expr} {pos : Pos} (hu : X.A.units + 64 < cLine) (hb0 : notSet pb = true) (ha : PE X pa (tP G X W a)) (hb : PE X pb (tP G X W b)) : PE X (.Compare pa [coOp o] [pb] pos) (tE G X W (.cmp o a b)) := by
  refine (pe_cmpR (op_cmpD o hu) ha hb (notSet_mark hb0 _)).imp ?_
  rintro σ H Q ⟨Z, H0, io, env, Qd, Xd, hio, er, lk, w, fin⟩
  unfold wE at w
  refine ⟨Z, H0, io, env, _, Xd, hio, er, lk, w, fun x env1 v1 H1 er1 m1 r1 w1 => ?_⟩
  refine ⟨Z, H0, io, env1, _, Xd, hio, er1, lk.step m1, w1, fun y env2 v2 H2 er2 m2 r2 w2 => ?_⟩
  exact of_cmp hid_le (r1.prep m2 er2) (r2.prep .refl er2) w2 fun b k => fin_ans (m1.trans m2) fin (.flat er2 (.bl _) fun _ => rfl) (fun h => h) k
theorem s_cmpT {o : CO} {a b : E} {pa pb : Expr} {pos : Pos} (hu : X.A.units + 64 < cLine) (hb0 : notSet pb = true) (ha : PE X pa (tP G X W a)) (hb : PE X pb (tP G X W b)) : PT X (.Compare pa [coOp o] [pb] pos) (tT G X W (wT G (.tst (.cmp o a b)))) := by
  refine (pt_cmpR (op_cmpD o hu) ha hb (notSet_mark hb0 _)).imp ?_
  rintro σ H Q ⟨Z, H0, io, env, Qd, Xd, hio, er, lk, w, fin⟩
  unfold wT pk at w
  dsimp only at w
  unfold wE at w
  refine ⟨Z, H0, io, env, _, Xd, hio, er, lk, w, fun x env1 v1 H1 er1 m1 r1 w1 => ?_⟩
  refine ⟨Z, H0, io, env1, _, Xd, hio, er1, lk.step m1, w1, fun y env2 v2 H2 er2 m2 r2 w2 => ?_⟩
  exact of_cmp hid_le (r1.prep m2 er2) (r2.prep .refl er2) w2 fun b k => ⟨b, rfl, fin _ _ _ er2 (m1.trans m2) k⟩
theorem chn_red {o o' : CO} {a b c : E} (hu : X.A.units + 64 < cLine) {σ : Sg} {H : Hp} {P : V → Hp → Prop}
    (h : ∃ (Z : Addr → Prop) (H0 : Hp) (io : Option (Nat × Addr)) (env : Loca) (Qd : Bool → Loca → Prop) (Xd : Xq),
      G.iop = io.map (·.1) ∧ ER (rcOf G X) Z H0 io σ H env ∧ Lk (rcOf G X) Z H0 io W σ H env Xd ∧
      wE G a env (fun x env1 => wE G b env1 (fun y env2 => wCmp o x y fun r => if r = true then wE G c env2 (fun z env3 => wCmp o' y z fun r' => Qd r' env3) Xd else Qd false env2) Xd) Xd ∧
      ∀ d env' H', ER (rcOf G X) Z H0 io σ H' env' → Mono σ H env σ H' env' → Qd d env' → P (.bl d) H') :
    tChain (rCmpD X.K o) (rCmpD X.K o') (tE G X W a) (tE G X W b) (tE G X W c) σ H P := by
  obtain ⟨Z, H0, io, env, Qd, Xd, hio, er, lk, w, fin⟩ := h
  refine ⟨Z, H0, io, env, _, Xd, hio, er, lk, w, fun x env1 v1 H1 er1 m1 r1 _ w1 => ?_⟩
  refine ⟨Z, H0, io, env1, _, Xd, hio, er1, lk.step m1, w1, fun y env2 v2 H2 er2 m2 r2 _ w2 => ?_⟩
  refine of_cmp hid_le (.rep (r1.mono m2.see)) (.rep r2) w2 fun b k => ⟨b, rfl, ?_⟩
  cases b with
  | false =>
    rw [if_neg Bool.false_ne_true] at k ⊢
    exact fin _ _ _ er2 (m1.trans m2) k
  | true =>
    rw [if_pos rfl] at k ⊢
    refine ⟨Z, H0, io, env2, _, Xd, hio, er2, lk.step (m1.trans m2), k, fun z env3 v3 H3 er3 m3 r3 _ w3 => ?_⟩
    exact of_cmp hid_le (.rep (r2.mono m3.see)) (.rep r3) w3 fun b k => fin _ _ _ er3 ((m1.trans m2).trans m3) k
theorem s_chn {o o' : CO} {a b c : E} {pa pb pc : Expr} {pos : Pos} (hu : X.A.units + 64 < cLine) (ha : PE X pa (tE G X W a)) (hb : PE X pb (tE G X W b)) (hc : PE X pc (tE G X W c)) (h1 : notSet pb = true) (h2 : notSet pc = true)
    (mk : PE X (.Compare pa [coOp o, coOp o'] [pb, pc] pos) (tChain (rCmpD X.K o) (rCmpD X.K o') (tE G X W a) (tE G X W b) (tE G X W c))) : PE X (.Compare pa [coOp o, coOp o'] [pb, pc] pos) (tE G X W (.chn o o' a b c)) := by
  refine mk.imp ?_
  rintro σ H Q ⟨Z, H0, io, env, Qd, Xd, hio, er, lk, w, fin⟩
  unfold wE at w
  exact chn_red hu ⟨Z, H0, io, env, fun b env => Qd (.bl b) env, Xd, hio, er, lk, w, fun b env2 H2 er2 m k => fin_ans m fin (.flat er2 (.bl _) fun _ => rfl) (fun h => h) k⟩
theorem non_eq {R : RC} {H : Hp} {v : V} {d : D} (r : Rep R H v d) : decide (v = V.non) = isNonD d := by
  cases r <;> simp [isNonD]
theorem s_isn {a : E} {pa : Expr} {j : Nat} {pos p2 : Pos} (ha : PE X pa (tE G X W a)) : PE X (.Compare pa [.Is] [.Constant .none j p2] pos) (tE G X W (.isn a)) := by
  refine (pe_cmp (pc_isN ha) rfl).imp ?_
  rintro σ H Q ⟨Z, H0, io, env, Qd, Xd, hio, er, lk, w, fin⟩
  unfold wE at w
  refine ⟨Z, H0, io, env, _, Xd, hio, er, lk, w, fun x env1 v1 H1 er1 m1 r1 _ w1 => ?_⟩
  show Q (.bl (decide (v1 = V.non))) H1
  rw [non_eq r1]
  exact fin_ans m1 fin (.flat er1 (.bl _) fun _ => rfl) (fun h => h) w1
theorem s_ntn {a : E} {pa : Expr} {j : Nat} {pos p2 : Pos} (ha : PE X pa (tE G X W a)) : PE X (.Compare pa [.IsNot] [.Constant .none j p2] pos) (tE G X W (.ntn a)) := by
  refine (pe_cmp (pc_notN ha) rfl).imp ?_
  rintro σ H Q ⟨Z, H0, io, env, Qd, Xd, hio, er, lk, w, fin⟩
  unfold wE at w
  refine ⟨Z, H0, io, env, _, Xd, hio, er, lk, w, fun x env1 v1 H1 er1 m1 r1 _ w1 => ?_⟩
  show Q (.bl (!decide (v1 = V.non))) H1
  rw [non_eq r1]
  exact fin_ans m1 fin (.flat er1 (.bl _) fun _ => rfl) (fun h => h) w1
theorem s_isnT {a : E} {pa : Expr} {j : Nat} {pos p2 : Pos} (ha : PE X pa (tE G X W a)) : PT X (.Compare pa [.Is] [.Constant .none j p2] pos) (tT G X W (wT G (.tst (.isn a)))) := by
  refine (pt_cmp (pc_isN ha) rfl).imp ?_
  rintro σ H Q ⟨Z, H0, io, env, Qd, Xd, hio, er, lk, w, fin⟩
  unfold wT pk at w
  dsimp only at w
  unfold wE at w
  refine ⟨Z, H0, io, env, _, Xd, hio, er, lk, w, fun x env1 v1 H1 er1 m1 r1 _ w1 => ?_⟩
  refine ⟨_, rfl, ?_⟩
  rw [non_eq r1]
  exact fin _ _ _ er1 m1 w1
theorem s_ntnT {a : E} {pa : Expr} {j : Nat} {pos p2 : Pos} (ha : PE X pa (tE G X W a)) : PT X (.Compare pa [.IsNot] [.Constant .none j p2] pos) (tT G X W (wT G (.tst (.ntn a)))) := by
  refine (pt_cmp (pc_notN ha) rfl).imp ?_
  rintro σ H Q ⟨Z, H0, io, env, Qd, Xd, hio, er, lk, w, fin⟩
  unfold wT pk at w
  dsimp only at w
  unfold wE at w
  refine ⟨Z, H0, io, env, _, Xd, hio, er, lk, w, fun x env1 v1 H1 er1 m1 r1 _ w1 => ?_⟩
  refine ⟨_, rfl, ?_⟩
  rw [non_eq r1]
  exact fin _ _ _ er1 m1 w1

/-! ### lists of expressions -/
theorem star_ok {py : Expr} (h : ∀ e p, py ≠ .Starred e p) (es : List Expr) (env : Env) : starEach (py :: es) env = (false, eval py env) :: starEach es env := by
  cases py <;> first | rfl | exact absurd rfl (h _ _)
theorem s_nil : PA X [] (tA G X W .nil) := by
  refine pa_nil.imp ?_
  rintro σ H Q ⟨Z, H0, io, env, Qd, Xd, hio, er, lk, w, fin⟩
  exact fin [] env [] H er .refl .nil rfl w
theorem s_cons {e es : E} {p : Expr} {ps : List Expr} (h1 : PE X p (tE G X W e)) (h2 : PA X ps (tA G X W es)) (hs : ∀ e q, p ≠ .Starred e q) : PA X (p :: ps) (tA G X W (.cons e es)) := by
  refine (pa_cons h1 h2 (star_ok hs _ _)).imp ?_
  rintro σ H Q ⟨Z, H0, io, env, Qd, Xd, hio, er, lk, w, fin⟩
  unfold wA at w
  refine ⟨Z, H0, io, env, _, Xd, hio, er, lk, w, fun x env1 v1 H1 er1 m1 r1 _ w1 => ?_⟩
  exact ⟨Z, H0, io, env1, _, Xd, hio, er1, lk.step m1, w1, fun xs env2 vs H2 er2 m2 r2 l2 w2 => fin _ _ _ _ er2 (m1.trans m2) (.cons (r1.mono m2.see) r2) (congrArg (· + 1) l2) w2⟩
theorem s_nilP : PA X [] (tPs G X W .nil) := by
  refine pa_nil.imp ?_
  rintro σ H Q ⟨Z, H0, io, env, Qd, Xd, hio, er, lk, w, fin⟩
  exact fin [] env [] H er .refl .nil w
theorem OpR.mono {R : RC} {Z : Addr → Prop} {σ : Sg} {H1 H2 : Hp} {env1 env2 : Loca} {v : V} {o : Op} (m : Mono σ H1 env1 σ H2 env2) (h : OpR R Z σ H1 env1 v o) : OpR R Z σ H2 env2 v o := by
  cases o with
  | dat d => exact Rep.mono m.see h
  | slot i => exact h
theorem s_consP {e es : E} {p : Expr} {ps : List Expr} (h1 : PE X p (tP G X W e)) (h2 : PA X ps (tPs G X W es)) (hs : ∀ e q, p ≠ .Starred e q) : PA X (p :: ps) (tPs G X W (.cons e es)) := by
  refine (pa_cons h1 h2 (star_ok hs _ _)).imp ?_
  rintro σ H Q ⟨Z, H0, io, env, Qd, Xd, hio, er, lk, w, fin⟩
  unfold wP at w
  refine ⟨Z, H0, io, env, _, Xd, hio, er, lk, w, fun x env1 v1 H1 er1 m1 r1 w1 => ?_⟩
  exact ⟨Z, H0, io, env1, _, Xd, hio, er1, lk.step m1, w1, fun xs env2 vs H2 er2 m2 r2 w2 => fin _ _ _ _ er2 (m1.trans m2) (.cons (r1.mono m2) r2) w2⟩

/-! ### displays -/
theorem line1000 {n : Nat} (h : n ≤ 1000) : n ≤ sizeLine := Nat.le_of_lt (small1000 h)
theorem s_tup {es : E} {ps : List Expr} {k : Nat} {pos : Pos} (h : PA X ps (tA G X W es)) (hl : lnE es ≤ 1000) : PE X (.Tuple ps k pos) (tE G X W (.tup es)) := by
  refine (pe_tup h).imp ?_
  rintro σ H Q ⟨Z, H0, io, env, Qd, Xd, hio, er, lk, w, fin⟩
  unfold wE at w
  refine ⟨Z, H0, io, env, _, Xd, hio, er, lk, w, fun ds env1 vs H1 er1 m1 r1 l1 w1 => ⟨line1000 (by rw [r1.length, l1]; exact hl), fun p hp => ?_⟩⟩
  exact fin_ans m1 fin (.newTup (f := true) er1 hp r1) (fun _ => rfl) w1
theorem s_lst {es : E} {ps : List Expr} {pos : Pos} (h : PA X ps (tA G X W es)) (hl : lnE es ≤ 1000) : PE X (.List ps pos) (tE G X W (.lst es)) := by
  refine (pe_lst h).imp ?_
  rintro σ H Q ⟨Z, H0, io, env, Qd, Xd, hio, er, lk, w, fin⟩
  unfold wE at w
  refine ⟨Z, H0, io, env, _, Xd, hio, er, lk, w, fun ds env1 vs H1 er1 m1 r1 l1 w1 => ⟨line1000 (by rw [r1.length, l1]; exact hl), fun p hp => ?_⟩⟩
  exact fin_ans m1 fin (.newLst (f := true) er1 hp r1) (fun _ => rfl) w1

/-! ### built-ins, items, slices -/
theorem s_blt {f : BF} {es : E} {p0 : Expr} {ps : List Expr} {p pos : Pos} (hc : X.calm = true) (hg : Gl X (bfName f)) (hm : X.mg (bfName f) = none) (h : PA X (p0 :: ps) (tPs G X W es)) (hs : ∀ e q, p0 ≠ .Starred e q)
    (hp : (backTo pos (starEach ps X.env)).any (·.1) = false) (mk : ∀ {r : List V → Hp → VK → Prop} {t : TA}, CallR X (bfVal f) r → PA X (p0 :: ps) t → PE X (.Call (.Name (bfName f) p) (p0 :: ps) [] pos) (tCB r t)) :
    PE X (.Call (.Name (bfName f) p) (p0 :: ps) [] pos) (tE G X W (.blt f es)) := by
  refine (mk (call_D hc f) h).imp ?_
  rintro σ H Q ⟨Z, H0, io, env, Qd, Xd, hio, er, lk, w, fin⟩
  unfold wE at w
  refine ⟨Z, H0, io, env, _, Xd, hio, er, lk, w, fun ds env1 vs H1 er1 m1 r1 w1 => ?_⟩
  exact of_blt (R := rcOf G X) er1 (r1.preps er1) w1 fun g v H' k an => fin_ans m1 fin an (fun h => h) k
theorem s_isi {a : E} {T : TyN} {pa : Expr} {p p2 pos : Pos} (hg : Gl X "isinstance") (hm : X.mg "isinstance" = none) (hg2 : Gl X (tyName T)) (hm2 : X.mg (tyName T) = none) (ha : PE X pa (tP G X W a)) (hs : ∀ e q, pa ≠ .Starred e q) :
    PE X (.Call (.Name "isinstance" p) [pa, .Name (tyName T) p2] [] pos) (tE G X W (.isi a T)) := by
  have hty : PE X (.Name (tyName T) p2) (tC (.ty (tyStr T))) := pe_bltn hg2 hm2 (ty_boot T) rfl (ty_ne T).1 (ty_ne T).2
  refine (pe_callB call_isi hg hm (by decide +kernel) (pa_cons ha (pa_cons hty pa_nil) (star_ok hs _ _)) (by decide) (by decide) (star_ok hs _ _)).imp ?_
  rintro σ H Q ⟨Z, H0, io, env, Qd, Xd, hio, er, lk, w, fin⟩
  unfold wE at w
  refine ⟨Z, H0, io, env, _, Xd, hio, er, lk, w, fun o env1 v1 H1 er1 m1 r1 w1 => ?_⟩
  obtain ⟨h1, w1⟩ := w1
  exact ⟨v1, .ty (tyStr T), _, _, _, rfl, .ty _, of_ty (R := rcOf G X) hid_le (r1.prep .refl er1) h1, kit_D _ h1 T, fin_ans m1 fin (.flat er1 (.bl _) fun _ => rfl) (fun h => h) w1⟩
theorem s_ix {a b : E} {pa pb : Expr} {pos : Pos} (ha : PE X pa (tP G X W a)) (hb : PE X pb (tE G X W b)) (hp : PlainIx pb) : PE X (.Subscript pa pb pos) (tE G X W (.ix a b)) := by
  refine (pe_ix ix_seq ha hb hp).imp ?_
  rintro σ H Q ⟨Z, H0, io, env, Qd, Xd, hio, er, lk, w, fin⟩
  unfold wE at w
  refine ⟨Z, H0, io, env, _, Xd, hio, er, lk, w, fun x env1 v1 H1 er1 m1 r1 w1 => ?_⟩
  refine ⟨Z, H0, io, env1, _, Xd, hio, er1, lk.step m1, w1, fun y env2 v2 H2 er2 m2 r2 _ w2 => ?_⟩
  exact of_ix (R := rcOf G X) er2 (r1.prep m2 er2) (.rep r2) w2 fun g v k r => fin g env2 v H2 er2 (m1.trans m2) r (fun h => by cases h) k
end
end Pd

/-! Soundness of expressions: slices, conditions, calls. -/
namespace Pd
open L2 PyProof.Rows PySem.Spec PySem
section
variable {G : Gx} {gi : Str → Option Int} {X : Cx} {W : WX}
def tO (G : Gx) (X : Cx) (W : WX) (e : E) : TO := fun σ H Q => ∃ (Z : Addr → Prop) (H0 : Hp) (io : Option (Nat × Addr)) (env : Loca) (Qd : Option Int → Loca → Prop) (Xd : Xq),
  G.iop = io.map (·.1) ∧ ER (rcOf G X) Z H0 io σ H env ∧ Lk (rcOf G X) Z H0 io W σ H env Xd ∧ wA G e env (fun l env' => wOpt l fun i => Qd i env') Xd ∧
  ∀ i env' H', ER (rcOf G X) Z H0 io σ H' env' → Mono σ H env σ H' env' → Qd i env' → Q i H'
theorem _root_.L2.PO.imp {X : Cx} {e : Option Expr} {t t' : TO} (h : PO X e t) (i : ∀ σ H Q, t' σ H Q → t σ H Q) : PO X e t' := ⟨fun pins s σ H Q I w => h.run pins s σ H Q I (i σ H Q w)⟩
theorem s_onone : PO X none (tO G X W .nil) := by
  refine po_none.imp ?_
  rintro σ H Q ⟨Z, H0, io, env, Qd, Xd, hio, er, lk, w, fin⟩
  exact fin none env H er .refl w
theorem s_osome {e : E} {p : Expr} (h : PE X p (tE G X W e)) : PO X (some p) (tO G X W (.cons e .nil)) := by
  refine (po_some h).imp ?_
  rintro σ H Q ⟨Z, H0, io, env, Qd, Xd, hio, er, lk, w, fin⟩
  unfold wA at w
  refine ⟨Z, H0, io, env, _, Xd, hio, er, lk, w, fun x env1 v1 H1 er1 m1 r1 _ w1 => ?_⟩
  unfold wA at w1
  cases x with
  | int i =>
    cases r1
    exact ⟨i, rfl, fin (some i) env1 H1 er1 m1 w1⟩
  | _ => exact w1.elim
theorem s_slc {a lo hi : E} {pa : Expr} {plo phi : Option Expr} {p2 pos : Pos} (ha : PE X pa (tP G X W a)) (hl : PO X plo (tO G X W lo)) (hh : PO X phi (tO G X W hi)) : PE X (.Subscript pa (.Slice plo phi none p2) pos) (tE G X W (.slc a lo hi)) := by
  refine (pe_slice sl_D ha hl hh).imp ?_
  rintro σ H Q ⟨Z, H0, io, env, Qd, Xd, hio, er, lk, w, fin⟩
  unfold wE at w
  refine ⟨Z, H0, io, env, _, Xd, hio, er, lk, w, fun x env1 v1 H1 er1 m1 r1 w1 => ?_⟩
  refine ⟨Z, H0, io, env1, _, Xd, hio, er1, lk.step m1, w1, fun i env2 H2 er2 m2 w2 => ?_⟩
  refine ⟨Z, H0, io, env2, _, Xd, hio, er2, lk.step (m1.trans m2), w2, fun j env3 H3 er3 m3 w3 => ?_⟩
  exact of_slc (R := rcOf G X) er3 (r1.prep (m2.trans m3) er3) w3 fun g v H' k an => fin_ans ((m1.trans m2).trans m3) fin an (fun _ => rfl) k
theorem s_rev {a : E} {pa : Expr} {k : Nat} {p1 p2 p3 pos : Pos} (ha : PE X pa (tP G X W a)) : PE X (.Subscript pa (.Slice none none (some (.UnaryOp .USub (.Constant (.int 1) k p1) p2)) p3) pos) (tE G X W (.rev a)) := by
  refine (pe_revA ha).imp ?_
  rintro σ H Q ⟨Z, H0, io, env, Qd, Xd, hio, er, lk, w, fin⟩
  unfold wE at w
  refine ⟨Z, H0, io, env, _, Xd, hio, er, lk, w, fun x env1 v1 H1 er1 m1 r1 w1 => ?_⟩
  have pr := r1.prep .refl er1
  generalize x.rd env1 = d at pr w1
  cases d with
  | lst xs =>
    obtain ⟨p, vs, rfl, hp, hv⟩ := pr.lst hid_le
    exact ⟨p, vs, rfl, .inl ⟨.of hp, fun q hq => fin_ans m1 fin (.newLst (f := true) er1 hq hv.reverse) (fun _ => rfl) w1⟩⟩
  | frz xs =>
    obtain ⟨p, vs, rfl, hp, hv⟩ := pr.frz hid_le
    exact ⟨p, vs, rfl, .inl ⟨hp, fun q hq => fin_ans m1 fin (.newLst (f := true) er1 hq hv.reverse) (fun _ => rfl) w1⟩⟩
  | tup xs =>
    obtain ⟨p, vs, rfl, hp, hv⟩ := pr.tup hid_le
    exact ⟨p, vs, rfl, .inr ⟨hp, fun q hq => fin_ans m1 fin (.newTup (f := true) er1 hq hv.reverse) (fun _ => rfl) w1⟩⟩
  | _ => exact w1.elim

/-! ### ranges -/
theorem reps_rg {R : RC} {H : Hp} (a b : Int) : Reps R H (rgV a b) (rngD a b) := by
  unfold rgV rngD
  induction (List.range (b - a).toNat) with
  | nil => exact .nil
  | cons x xs ih => exact .cons (.int _) ih
theorem rng_vals {R : RC} {H : Hp} {vs : List V} {ds : List D} {p : Int × Int} (r : Reps R H vs ds) (h : rngE ds = some p) : (∃ n, vs = [.int n] ∧ p = (0, n)) ∨ ∃ i j, vs = [.int i, .int j] ∧ p = (i, j) := by
  match ds, r, h with
  | [.int n], .cons (.int _) .nil, h => cases h; exact .inl ⟨n, rfl, rfl⟩
  | [.int i, .int j], .cons (.int _) (.cons (.int _) .nil), h => cases h; exact .inr ⟨i, j, rfl, rfl⟩

/-! ### conditions -/
theorem s_ite {c a b : E} {pc pa pb : Expr} {pos : Pos} (hc : PT X pc (tT G X W (wT G c))) (ha : PE X pa (tE G X W a)) (hb : PE X pb (tE G X W b)) : PE X (.IfExp pc pa pb pos) (tE G X W (.ite c a b)) := by
  refine (pe_ifExp hc ha hb).imp ?_
  rintro σ H Q ⟨Z, H0, io, env, Qd, Xd, hio, er, lk, w, fin⟩
  unfold wE at w
  refine ⟨Z, H0, io, env, _, Xd, hio, er, lk, w, fun t env1 H1 er1 m1 w1 => ?_⟩
  cases t with
  | true =>
    rw [if_pos rfl] at w1 ⊢
    exact ⟨Z, H0, io, env1, _, Xd, hio, er1, lk.step m1, w1, fun d env2 v H2 er2 m2 r _ k => fin d env2 v H2 er2 (m1.trans m2) r (fun h => by cases h) k⟩
  | false =>
    rw [if_neg Bool.false_ne_true] at w1 ⊢
    exact ⟨Z, H0, io, env1, _, Xd, hio, er1, lk.step m1, w1, fun d env2 v H2 er2 m2 r _ k => fin d env2 v H2 er2 (m1.trans m2) r (fun h => by cases h) k⟩
/-- values joined by and, or -/
def tW (G : Gx) (X : Cx) (W : WX) (f : Wf) : TE := fun σ H Q => ∃ (Z : Addr → Prop) (H0 : Hp) (io : Option (Nat × Addr)) (env : Loca) (Qd : D → Loca → Prop) (Xd : Xq),
  G.iop = io.map (·.1) ∧ ER (rcOf G X) Z H0 io σ H env ∧ Lk (rcOf G X) Z H0 io W σ H env Xd ∧ f env Qd Xd ∧
  ∀ d env' v H', ER (rcOf G X) Z H0 io σ H' env' → Mono σ H env σ H' env' → Rep (rcOf G X) (hid Z σ env' H') v d → Qd d env' → Q v H'
theorem s_and1 {e : E} {p : Expr} {pos : Pos} (h : PE X p (tE G X W e)) : PE X (.BoolOp .And [p] pos) (tW G X W (wAnd G (.cons e .nil))) := by
  refine (pe_one h).imp ?_
  rintro σ H Q ⟨Z, H0, io, env, Qd, Xd, hio, er, lk, w, fin⟩
  exact ⟨Z, H0, io, env, Qd, Xd, hio, er, lk, w, fun d env' v H' a b c _ k => fin d env' v H' a b c k⟩
theorem s_or1 {e : E} {p : Expr} {pos : Pos} (h : PE X p (tE G X W e)) : PE X (.BoolOp .Or [p] pos) (tW G X W (wOr G (.cons e .nil))) := by
  refine (pe_one h).imp ?_
  rintro σ H Q ⟨Z, H0, io, env, Qd, Xd, hio, er, lk, w, fin⟩
  exact ⟨Z, H0, io, env, Qd, Xd, hio, er, lk, w, fun d env' v H' a b c _ k => fin d env' v H' a b c k⟩
theorem s_and2 {e e2 es : E} {p q : Expr} {ps : List Expr} {pos : Pos} (h : PE X p (tE G X W e)) (h2 : PE X (.BoolOp .And (q :: ps) pos) (tW G X W (wAnd G (.cons e2 es)))) :
    PE X (.BoolOp .And (p :: q :: ps) pos) (tW G X W (wAnd G (.cons e (.cons e2 es)))) := by
  refine (pe_and h h2).imp ?_
  rintro σ H Q ⟨Z, H0, io, env, Qd, Xd, hio, er, lk, w, fin⟩
  rw [wAnd] at w
  rotate_left
  · intro z; cases z
  refine ⟨Z, H0, io, env, _, Xd, hio, er, lk, w, fun x env1 v1 H1 er1 m1 r1 _ w1 => ?_⟩
  cases x with
  | bl b =>
    cases r1
    refine ⟨b, rfl, ?_⟩
    cases b with
    | true =>
      dsimp only at w1
      rw [if_pos rfl] at w1 ⊢
      exact ⟨Z, H0, io, env1, _, Xd, hio, er1, lk.step m1, w1, fun d env2 v H2 er2 m2 r k => fin d env2 v H2 er2 (m1.trans m2) r k⟩
    | false =>
      dsimp only at w1
      rw [if_neg Bool.false_ne_true] at w1 ⊢
      exact fin _ env1 _ H1 er1 m1 (.bl _) w1
  | _ => exact w1.elim
theorem s_or2 {e e2 es : E} {p q : Expr} {ps : List Expr} {pos : Pos} (h : PE X p (tE G X W e)) (h2 : PE X (.BoolOp .Or (q :: ps) pos) (tW G X W (wOr G (.cons e2 es)))) :
    PE X (.BoolOp .Or (p :: q :: ps) pos) (tW G X W (wOr G (.cons e (.cons e2 es)))) := by
  refine (pe_or h h2).imp ?_
  rintro σ H Q ⟨Z, H0, io, env, Qd, Xd, hio, er, lk, w, fin⟩
  rw [wOr] at w
  rotate_left
  · intro z; cases z
  refine ⟨Z, H0, io, env, _, Xd, hio, er, lk, w, fun x env1 v1 H1 er1 m1 r1 _ w1 => ?_⟩
  cases x with
  | bl b =>
    cases r1
    refine ⟨b, rfl, ?_⟩
    cases b with
    | false =>
      dsimp only at w1
      rw [if_neg Bool.false_ne_true] at w1 ⊢
      exact ⟨Z, H0, io, env1, _, Xd, hio, er1, lk.step m1, w1, fun d env2 v H2 er2 m2 r k => fin d env2 v H2 er2 (m1.trans m2) r k⟩
    | true =>
      dsimp only at w1
      rw [if_pos rfl] at w1 ⊢
      exact fin _ env1 _ H1 er1 m1 (.bl _) w1
  | _ => exact w1.elim
theorem s_ofW {e : E} {py : Expr} {f : Wf} (h : PE X py (tW G X W f)) (hw : ∀ env Q Xd, wE G e env Q Xd = f env Q Xd) (hf : frE G.tb e = false) : PE X py (tE G X W e) := by
  refine h.imp ?_
  rintro σ H Q ⟨Z, H0, io, env, Qd, Xd, hio, er, lk, w, fin⟩
  rw [hw] at w
  exact ⟨Z, H0, io, env, Qd, Xd, hio, er, lk, w, fun d env' v H' a b c k => fin d env' v H' a b c (fun h => by rw [hf] at h; cases h) k⟩

/-! ### tests -/
theorem s_tst {e : E} {py : Expr} (h : PE X py (tP G X W e)) (ht : tstOk py = true) (hc : ∀ a ops es pos, py ≠ .Compare a ops es pos) : PT X py (tT G X W (wT G (.tst e))) := by
  have ht' : ∀ whole, isTrue py X.env whole = (do let v ← whole; standAt py.pos; holding [v] (truthy v)) := by
    intro whole
    cases py <;> first | rfl | (simp [tstOk] at ht; done) | exact absurd rfl (hc _ _ _ _) | skip
    rename_i op x pos
    cases op <;> first | rfl | (simp [tstOk] at ht; done)
  refine (pt_truth h ht').imp ?_
  rintro σ H Q ⟨Z, H0, io, env, Qd, Xd, hio, er, lk, w, fin⟩
  unfold wT at w
  refine ⟨Z, H0, io, env, _, Xd, hio, er, lk, w, fun x env1 v1 H1 er1 m1 r1 w1 => ?_⟩
  obtain ⟨b, tb, k⟩ := of_tru (R := rcOf G X) hid_le (r1.prep .refl er1) w1
  exact ⟨b, tb, fin b env1 H1 er1 m1 k⟩
theorem s_tnot {a : E} {pa : Expr} {pos : Pos} (h : PT X pa (tT G X W (wT G a))) : PT X (.UnaryOp .Not pa pos) (tT G X W (wT G (.not a))) := by
  refine (pt_not h).imp ?_
  rintro σ H Q ⟨Z, H0, io, env, Qd, Xd, hio, er, lk, w, fin⟩
  unfold wT at w
  exact ⟨Z, H0, io, env, _, Xd, hio, er, lk, w, fun b env1 H1 er1 m1 w1 => fin (!b) env1 H1 er1 m1 w1⟩
theorem _root_.L2.PW.imp {X : Cx} {e : Expr} {t t' : TT} (h : PW X e t) (i : ∀ σ H Q, t' σ H Q → t σ H Q) : PW X e t' := ⟨fun wh pins s σ H Q I w => h.run wh pins s σ H Q I (i σ H Q w)⟩
theorem s_ta1 {a : E} {pa : Expr} {pos : Pos} (h : PT X pa (tT G X W (wT G a))) : PW X (.BoolOp .And [pa] pos) (tT G X W (wTA G (.cons a .nil))) := by
  refine (pw_and1 h).imp ?_
  rintro σ H Q ⟨Z, H0, io, env, Qd, Xd, hio, er, lk, w, fin⟩
  unfold wTA at w
  refine ⟨Z, H0, io, env, _, Xd, hio, er, lk, w, fun b env1 H1 er1 m1 w1 => fin b env1 H1 er1 m1 ?_⟩
  cases b with
  | true => rw [if_pos rfl] at w1; exact w1
  | false => rw [if_neg Bool.false_ne_true] at w1; exact w1
theorem s_ta2 {a b es : E} {pa pb : Expr} {ps : List Expr} {pos : Pos} (h : PT X pa (tT G X W (wT G a))) (h2 : PW X (.BoolOp .And (pb :: ps) pos) (tT G X W (wTA G (.cons b es)))) :
    PW X (.BoolOp .And (pa :: pb :: ps) pos) (tT G X W (wTA G (.cons a (.cons b es)))) := by
  refine (pw_and h h2).imp ?_
  rintro σ H Q ⟨Z, H0, io, env, Qd, Xd, hio, er, lk, w, fin⟩
  rw [wTA] at w
  refine ⟨Z, H0, io, env, _, Xd, hio, er, lk, w, fun b env1 H1 er1 m1 w1 => ?_⟩
  cases b with
  | true =>
    rw [if_pos rfl] at w1 ⊢
    exact ⟨Z, H0, io, env1, _, Xd, hio, er1, lk.step m1, w1, fun d env2 H2 er2 m2 k => fin d env2 H2 er2 (m1.trans m2) k⟩
  | false =>
    rw [if_neg Bool.false_ne_true] at w1 ⊢
    exact fin _ env1 H1 er1 m1 w1
theorem s_to1 {a : E} {pa : Expr} {pos : Pos} (h : PT X pa (tT G X W (wT G a))) : PW X (.BoolOp .Or [pa] pos) (tT G X W (wTO G (.cons a .nil))) := by
  refine (pw_or1 h).imp ?_
  rintro σ H Q ⟨Z, H0, io, env, Qd, Xd, hio, er, lk, w, fin⟩
  unfold wTO at w
  refine ⟨Z, H0, io, env, _, Xd, hio, er, lk, w, fun b env1 H1 er1 m1 w1 => fin b env1 H1 er1 m1 ?_⟩
  cases b with
  | true => rw [if_pos rfl] at w1; exact w1
  | false => rw [if_neg Bool.false_ne_true] at w1; exact w1
theorem s_to2 {a b es : E} {pa pb : Expr} {ps : List Expr} {pos : Pos} (h : PT X pa (tT G X W (wT G a))) (h2 : PW X (.BoolOp .Or (pb :: ps) pos) (tT G X W (wTO G (.cons b es)))) :
    PW X (.BoolOp .Or (pa :: pb :: ps) pos) (tT G X W (wTO G (.cons a (.cons b es)))) := by
  refine (pw_or h h2).imp ?_
  rintro σ H Q ⟨Z, H0, io, env, Qd, Xd, hio, er, lk, w, fin⟩
  rw [wTO] at w
  refine ⟨Z, H0, io, env, _, Xd, hio, er, lk, w, fun b env1 H1 er1 m1 w1 => ?_⟩
  cases b with
  | true =>
    rw [if_pos rfl] at w1 ⊢
    exact fin _ env1 H1 er1 m1 w1
  | false =>
    rw [if_neg Bool.false_ne_true] at w1 ⊢
    exact ⟨Z, H0, io, env1, _, Xd, hio, er1, lk.step m1, w1, fun d env2 H2 er2 m2 k => fin d env2 H2 er2 (m1.trans m2) k⟩
end
end Pd

/-! Soundness of expressions: calls, what is walked, comprehensions. -/
namespace Pd
open L2 PyProof.Rows PySem.Spec PySem
section
variable {G : Gx} {gi : Str → Option Int} {X : Cx} {W : WX}
section
variable {R : RC} {Z : Addr → Prop} {H0 : Hp} {io : Option (Nat × Addr)} {σ : Sg} {H H' : Hp} {env : Loca}
theorem ER.zoks (r : ER R Z H0 io σ H env) : ∀ b, (Z b ∨ Own σ env b) → ∃ o, H b = some o := fun b h => by
  rcases h with h | ⟨i, d, e1, e2⟩
  · exact r.zok b h
  · obtain ⟨a, e, q⟩ := r.own i d e1
    rw [e2] at e; cases e
    exact q.some
/-- a call's answer -/
theorem ans_call (r : ER R Z H0 io σ H env) {d : D} {v : V} {fr : Bool} (e : Same H H') (hr : Rep R (hz (fun b => Z b ∨ Own σ env b) H') v d)
    (hf : fr = true → isMut d = true → ∃ p, v = .ref p ∧ H p = none ∧ (∃ o, H' p = some o) ∧ RepO R H' (hz (zx (fun b => Z b ∨ Own σ env b) p) H') p d) : Ans R Z H0 io σ H env fr d v H' := by
  refine ⟨r.grow e, mono_grow e, hr, fun h1 h2 => ?_⟩
  obtain ⟨p, rfl, hp, ⟨o, ho⟩, q⟩ := hf h1 h2
  refine ⟨p, rfl, hp, (r.hide hp e ho).1, (r.fresh hp).1, r.freshOld hp, fun k z => ?_, q.mono rfl fun b u hb => ?_⟩
  · obtain ⟨u, hu⟩ := r.iosH z
    rw [hp] at hu; cases hu
  · obtain ⟨n1, n2⟩ := hz_some hb
    exact hid_of (fun z => n1 (z.elim (fun z => .inl (.inl z)) .inr)) (fun z => n1 (.inl (.inr z))) n2
end
/-- f(..) of a def -/
theorem s_call {n k : Nat} {es : E} {f : Addr} {fd : FuncData} {ps : List Str} {x : Str} {p pos : Pos} {p0 : Expr} {pes : List Expr} (F : FnOk X.prog X.w X.K X.mg X.base (L2.CX X.prog X.w) k f fd ps (toSp (rcOf G X) (G.tb.io n) (G.tb.fr n) (G.sp n)))
    (hio : G.tb.io n = false) (hr : Room k X.A) (hg : Gl X x) (hm : X.mg x = some (.ref f)) (hk : PySem.W.keepIn X.K (.ref f) = true) (hb : L2.Binds X.K fd ps []) (tk : Takes X W) (ha : PA X (p0 :: pes) (tA G X W es))
    (hdb : (x == ("__debug__" : Str)) = false) (hs : ∀ e q, p0 ≠ .Starred e q) (hpl : (backTo pos (starEach pes X.env)).any (·.1) = false) :
    PE X (.Call (.Name x p) (p0 :: pes) [] pos) (tE G X W (.call n es)) := by
  refine (pe_callS F hr hg hm hk hb (fun σ => passAt tk σ) ha hdb (star_ok hs _ _) hpl).imp ?_
  rintro σ H Q ⟨Z, H0, io, env, Qd, Xd, hi, er, lk, w, fin⟩
  unfold wE at w
  refine ⟨Z, H0, io, env, _, Xd, hi, er, lk, w, fun ds env1 vs H1 er1 m1 r1 _ w1 => ?_⟩
  rw [hio]
  refine ⟨fun b => Z b ∨ Own σ env1 b, ds, _, _, er1.zoks, w1, fun _ => ⟨r1, fun d e v H' hP hs hr hf => ?_, fun x c dd H' hx hs hr => ?_⟩, fun h => by cases h⟩
  · exact fin_ans m1 fin (ans_call er1 hs hr hf) (fun h => h) hP
  · exact lk x env1 c dd H' (er1.grow hs) (m1.trans (mono_grow hs)) hr hx
theorem s_call0 {n k : Nat} {f : Addr} {fd : FuncData} {ps : List Str} {x : Str} {p pos : Pos} (F : FnOk X.prog X.w X.K X.mg X.base (L2.CX X.prog X.w) k f fd ps (toSp (rcOf G X) (G.tb.io n) (G.tb.fr n) (G.sp n)))
    (hio : G.tb.io n = false) (hr : Room k X.A) (hg : Gl X x) (hm : X.mg x = some (.ref f)) (hk : PySem.W.keepIn X.K (.ref f) = true) (hb : L2.Binds X.K fd ps []) (tk : Takes X W)
    (hdb : (x == ("__debug__" : Str)) = false) : PE X (.Call (.Name x p) [] [] pos) (tE G X W (.call n .nil)) := by
  refine ⟨fun pins s σ H Q I h => ?_⟩
  obtain ⟨Z, H0, io, env, Qd, Xd, hi, er, lk, w, fin⟩ := h
  unfold wE wA at w
  refine wpAny_Call_Name_kw (ld_glob I hg hm ?_ hdb)
  refine PySem.W.callWith_K0 I.kIn hk (run_fnS (us := []) (vs := []) (E := fun σ => WE W σ) F hr hb (passAt tk σ) I .nil ?_)
  rw [hio]
  refine ⟨fun b => Z b ∨ Own σ env b, [], _, _, er.zoks, w, fun _ => ⟨.nil, fun d e v H' hP hs hr hf => ?_, fun x c dd H' hx hs hr => ?_⟩, fun h => by cases h⟩
  · exact fin_ans .refl fin (ans_call er hs hr hf) (fun h => h) hP
  · exact lk x env c dd H' (er.grow hs) (mono_grow hs) hr hx
/-- f(own list, ..) of a def that changes it -/
theorem s_cio {n i k : Nat} {es : E} {f : Addr} {fd : FuncData} {ps : List Str} {x y : Str} {p p2 pos : Pos} {pes : List Expr} (F : FnOk X.prog X.w X.K X.mg X.base (L2.CX X.prog X.w) k f fd ps (toSp (rcOf G X) (G.tb.io n) (G.tb.fr n) (G.sp n)))
    (hio : G.tb.io n = true) (hr : Room k X.A) (hg : Gl X x) (hm : X.mg x = some (.ref f)) (hk : PySem.W.keepIn X.K (.ref f) = true) (hb : L2.Binds X.K fd ps []) (tk : Takes X W) (hN : X.N[i]? = some y) (hv : visC X.env.scope y = true)
    (ha : PA X pes (tA G X W es)) (hdb : (x == ("__debug__" : Str)) = false) (hpl : (backTo pos (starEach pes X.env)).any (·.1) = false) (hfr : G.tb.fr n = false) :
    PE X (.Call (.Name x p) (.Name y p2 :: pes) [] pos) (tE G X W (.cio n i es)) := by
  obtain ⟨v1, v2, v3⟩ := visC_ok hv
  refine (pe_callS F hr hg hm hk hb (fun σ => passAt tk σ) (pa_cons (pe_var hN v1 v2 v3) ha rfl) hdb rfl hpl).imp ?_
  rintro σ H Q ⟨Z, H0, io, env, Qd, Xd, hi, er, lk, w, fin⟩
  unfold wE at w
  obtain ⟨hown, w⟩ := w
  cases hc0 : at_ env i with
  | emp => rw [hc0] at hown; cases hown
  | val d => rw [hc0] at hown; cases hown
  | own dd =>
    obtain ⟨a, hs, _⟩ := er.own i dd (at_some hc0 (by intro z; cases z))
    refine ⟨.ref a, hs, Z, H0, io, env, _, Xd, hi, er, lk, w, fun ds env1 vs H1 er1 m1 r1 _ w1 => ?_⟩
    cases hc : at_ env1 i with
    | emp => rw [hc] at w1; exact w1.elim
    | val d => rw [hc] at w1; exact w1.elim
    | own d0 =>
      rw [hc] at w1
      have hcell := at_some hc (by intro z; cases z)
      obtain ⟨b, e1, ro⟩ := er1.own i d0 hcell
      rw [hs] at e1; cases e1
      rw [hio]
      refine ⟨fun b => Z b ∨ Own σ env1 b, d0 :: ds, _, _, er1.zoks, w1, (fun h => by cases h), fun _ => ⟨a, vs, d0, ds, rfl, rfl, .inr ⟨i, d0, hcell, hs⟩, ro, r1, fun d d1 v H' hP hf hr hro => ?_, fun x h => h⟩⟩
      obtain ⟨er2, m2⟩ := er1.change hcell hs hf hro
      have own' : Same (hid Z σ env1 H') (hid Z σ (put env1 i (.own d1)) H') := fun b u hb => by
        obtain ⟨a1, a2, a3⟩ := hid_some hb
        refine hid_of a1 (fun ⟨j, f, q1, q2⟩ => a2 ?_) a3
        rw [put_eq] at q1
        rcases set_at q1 with ⟨rfl, _, _⟩ | ⟨_, q1⟩
        · exact ⟨i, d0, hcell, q2⟩
        · exact ⟨j, f, q1, q2⟩
      exact fin d _ v H' er2 (m1.trans m2) (Rep.mono own' hr) (fun h => by cases h) hP
/-- f(..) of a local name that holds a def -/
theorem s_clv {i : Nat} {es : E} {x : Str} {p pos : Pos} {p0 : Expr} {pes : List Expr} (C : Cok G gi X W) (hN : X.N[i]? = some x) (hv : visC X.env.scope x = true)
    (ha : PA X (p0 :: pes) (tA G X W es)) (hs : ∀ e q, p0 ≠ .Starred e q) (hpl : (backTo pos (starEach pes X.env)).any (·.1) = false) :
    PE X (.Call (.Name x p) (p0 :: pes) [] pos) (tE G X W (.clv i es)) := by
  obtain ⟨v1, v2, v3⟩ := visC_ok hv
  refine ⟨fun pins s σ H Q I h => ?_⟩
  obtain ⟨Z, H0, io, env, Qd, Xd, hi, er, lk, w, fin⟩ := h
  unfold wE at w
  obtain ⟨n, hc0, hlv, hio, w⟩ := w
  have hcell := at_some hc0 (by intro z; cases z)
  obtain ⟨u, e1, r1⟩ := er.cell i _ hcell
  cases r1 with
  | fn _ hmg =>
    rename_i f
    refine wpAny_Call_Name_kw (thn ((pe_var (pos := p) hN v1 v2 v3).run pins s σ H (fun v H1 => v = .ref f ∧ H1 = H) I ⟨.ref f, e1, rfl, rfl⟩) fun u s1 ⟨v, H1, I1, q1, q2⟩ => ?_)
    obtain ⟨rfl, rfl⟩ := q2
    cases q1
    obtain ⟨f', fd, ps, g1, g2, F, hb⟩ := C.fns n hlv
    have hmg' : X.mg (G.tb.fnm n) = some (.ref f) := hmg
    rw [hmg'] at g1
    cases g1
    refine PySem.W.callWith_K (h₀ := X.base) I.ok.mod.kin g2 (thn (ha.run pos pins s1 σ _ (fun vs H2 => toSp (rcOf G X) (G.tb.io n) (G.tb.fr n) (G.sp n) vs H2 Q (WE W σ)) I1 ⟨Z, H0, io, env, _, Xd, hi, er, lk, w, fun ds env1 vs H1 er1 m1 r1 _ w1 => ?_⟩) fun us s2 ⟨vs, H2, I2, r, q⟩ => ⟨I2.kIn, ?_⟩) (star_ok hs _ _) hpl
    · rw [hio]
      refine ⟨fun b => Z b ∨ Own σ env1 b, ds, _, _, er1.zoks, w1, (fun _ => ⟨r1, fun d e v H' hP hs hr hf => ?_, fun x c dd H' hx hs hr => ?_⟩), fun h => by cases h⟩
      · exact fin_ans (fr := false) (f := G.tb.fr n) m1 (fun d env' v H' a b c _ k => fin d env' v H' a b c (fun h => by cases h) k) (ans_call er1 hs hr hf) (fun h => by cases h) hP
      · exact lk x env1 c dd H' (er1.grow hs) (m1.trans (mono_grow hs)) hr hx
    · exact run_fnS (E := fun σ => WE W σ) F (C.room _ hlv) hb (passAt C.tk σ) I2 r q
end
end Pd

/-! Soundness of expressions: what is walked, comprehensions. -/
namespace Pd
open L2 PyProof.Rows PySem.Spec PySem

/-! ### frames changed for a block -/
section
variable {R : RC} {Z : Addr → Prop} {H0 H H' : Hp} {io : Option (Nat × Addr)} {σ : Sg} {env : Loca}
theorem own_set {i : Nat} {c : Cl} {x : Option V} {a : Addr} (hc : ∀ d, c ≠ .own d) (h : Own (σ.set i x) (put env i c) a) : Own σ env a := by
  rw [put_eq] at h
  exact own_put hc h
theorem ER.wipe (r : ER R Z H0 io σ H env) : ∀ (is : List Nat), (∀ i ∈ is, ∀ a, io ≠ some (i, a)) → ER R Z H0 io (L2.wipe σ is) H (wipeC env is) ∧ Mono σ H env (L2.wipe σ is) H (wipeC env is)
  | [], _ => ⟨r, .refl⟩
  | i :: is, hi => by
    obtain ⟨r1, m1⟩ := ER.wipe r is fun j hj => hi j (List.mem_cons_of_mem _ hj)
    have q := r1.putC (i := i) (x := none) (c := .emp) (fun _ z => by cases z) (fun _ z => by cases z) (hi i List.mem_cons_self)
    refine ⟨?_, m1.trans ⟨fun _ _ h _ => h, fun b h => .inl ?_, fun _ o h => ⟨o, h⟩⟩⟩
    · show ER R Z H0 io ((L2.wipe σ is).set i none) H (Pd.put (wipeC env is) i .emp)
      rw [put_eq]
      exact q
    · exact own_set (fun _ z => by cases z) h
/-- slots are given back -/
def back (σ0 : Sg) : Sg → List Nat → Sg
  | s, [] => s
  | s, i :: is => (back σ0 s is).set i (σ0[i]?.getD none)
theorem back_len (σ0 : Sg) : ∀ (s : Sg) (is : List Nat), (back σ0 s is).length = s.length
  | _, [] => rfl
  | s, i :: is => by
    show ((back σ0 s is).set i _).length = _
    rw [List.length_set, back_len σ0 s is]
theorem wipe_len (σ : Sg) (is : List Nat) : (L2.wipe σ is).length = σ.length := wipe_length σ is
theorem back_wipe (σ : Sg) : ∀ (is js : List Nat), (∀ j ∈ is, j ∈ js) → (∀ j, j ∈ js → j ∉ is → (L2.wipe σ is)[j]? = σ[j]?) → True := fun _ _ _ _ => trivial
theorem back_at (σ : Sg) (s : Sg) (hl : s.length = σ.length) : ∀ (is : List Nat) (j : Nat), (back σ s is)[j]? = if j ∈ is then σ[j]? else s[j]?
  | [], j => by simp [back]
  | i :: is, j => by
    have ih := back_at σ s hl is j
    show ((back σ s is).set i (σ[i]?.getD none))[j]? = _
    by_cases q : i = j
    · subst q
      rw [if_pos List.mem_cons_self]
      by_cases hi : i < σ.length
      · rw [List.getElem?_set_self (by rw [back_len, hl]; exact hi)]
        rw [List.getElem?_eq_getElem hi]
        rfl
      · rw [List.getElem?_eq_none (by simp [back_len]; omega), List.getElem?_eq_none (by omega)]
    · rw [List.getElem?_set_ne q, ih]
      by_cases h : j ∈ is
      · rw [if_pos h, if_pos (List.mem_cons_of_mem _ h)]
      · rw [if_neg h, if_neg (by simp only [List.mem_cons, not_or]; exact ⟨fun e => q e.symm, h⟩)]
theorem back_self (σ : Sg) (is : List Nat) : back σ (L2.wipe σ is) is = σ := by
  refine List.ext_getElem? fun j => ?_
  rw [back_at σ _ (wipe_len σ is)]
  by_cases h : j ∈ is
  · rw [if_pos h]
  · rw [if_neg h]
    exact wipe_out h
theorem ER.back (r : ER R Z H0 io σ H env) {σ0 : Sg} {env0 : Loca} : ∀ (is : List Nat), (∀ i ∈ is, ∀ a, io ≠ some (i, a)) → (∀ i ∈ is, ∀ d, at_ env0 i ≠ .own d) →
    (∀ i ∈ is, ∀ d, at_ env0 i = .val d → ∃ v, σ0[i]? = some (some v) ∧ Rep R (hid Z σ env H) v d) → ER R Z H0 io (Pd.back σ0 σ is) H (backC env0 env is) ∧ Mono σ H env (Pd.back σ0 σ is) H (backC env0 env is)
  | [], _, _, _ => ⟨r, .refl⟩
  | i :: is, hi, ho, hv => by
    obtain ⟨r1, m1⟩ := ER.back r is (fun j hj => hi j (List.mem_cons_of_mem _ hj)) (fun j hj => ho j (List.mem_cons_of_mem _ hj)) fun j hj => hv j (List.mem_cons_of_mem _ hj)
    have q := r1.putC (i := i) (x := σ0[i]?.getD none) (c := at_ env0 i) (ho i List.mem_cons_self) (fun d e => by
      obtain ⟨v, h1, h2⟩ := hv i List.mem_cons_self d e
      exact ⟨v, by rw [h1]; rfl, h2.mono m1.see⟩) (hi i List.mem_cons_self)
    refine ⟨?_, m1.trans ⟨fun _ _ h _ => h, fun b h => .inl ?_, fun _ o h => ⟨o, h⟩⟩⟩
    · show ER R Z H0 io ((Pd.back σ0 σ is).set i _) H (Pd.put (backC env0 env is) i (at_ env0 i))
      rw [put_eq]
      exact q
    · exact own_set (ho i List.mem_cons_self) h
theorem ER.unhide {p : Addr} (r : ER R (zx Z p) H0 io σ H env) : ER R Z H0 io σ H env := by
  refine ⟨r.len, fun i d h => ?_, fun i d h => ?_, r.inj, r.old, r.new, fun b z => r.zok b (.inl z), fun a h z => r.zown a h (.inl z), r.ios⟩
  · obtain ⟨v, s, q⟩ := r.cell i d h
    exact ⟨v, s, q.mono hid_zx⟩
  · obtain ⟨a, s, q⟩ := r.own i d h
    exact ⟨a, s, q.mono rfl hid_zx⟩
/-- a hidden object is changed -/
theorem ER.updHid {p : Addr} {o : HO} (r : ER R (zx Z p) H0 io σ H env) (h0 : H0 p = none) (hn : ¬ Own σ env p) : ER R (zx Z p) H0 io σ (upd H p o) env ∧ ∀ {env' : Loca}, Same (hid (zx Z p) σ env H) (hid (zx Z p) σ env (upd H p o)) := by
  have hs : Same (hid (zx Z p) σ env H) (hid (zx Z p) σ env (upd H p o)) := fun b u h => by
    obtain ⟨a1, a2, a3⟩ := hid_some h
    refine hid_of a1 a2 ?_
    rw [upd_ne fun z => a1 (.inr z)]
    exact a3
  refine ⟨⟨r.len, fun i d h => ?_, fun i d h => ?_, r.inj, fun b u h k => ?_, r.new, fun b z => ?_, r.zown, r.ios⟩, fun {_} => hs⟩
  · obtain ⟨v, s, q⟩ := r.cell i d h
    exact ⟨v, s, q.mono hs⟩
  · obtain ⟨a, s, q⟩ := r.own i d h
    refine ⟨a, s, q.mono ?_ hs⟩
    rw [upd_ne]
    rintro rfl
    exact hn ⟨i, d, h, s⟩
  · rw [upd_ne]
    · exact r.old b u h k
    · rintro rfl
      rw [h0] at h; cases h
  · by_cases q : b = p
    · exact ⟨o, by rw [q]; exact upd_same⟩
    · obtain ⟨u, hu⟩ := r.zok b z
      exact ⟨u, by rw [upd_ne q]; exact hu⟩
end

/-! ### what is walked -/
/-- an iterator that gives the data, wherever what is seen here is seen -/
def JOk (R : RC) (Hv : Hp) (kp : Sg → Loca → Prop) (J : It) (ds : List D) : Prop := ∀ (Z : Addr → Prop) (H0 : Hp) (io : Option (Nat × Addr)) (σ : Sg) (H : Hp) (env : Loca), ER R Z H0 io σ H env → Same Hv (hid Z σ env H) → kp σ env →
  (∀ i d, ds[i]? = some d → J.go i H ∧ ∀ x H', J.yld i H x H' → Same H H' ∧ Rep R (hid Z σ env H') x d) ∧ ∀ i, ds.length ≤ i → J.stop i H
theorem JOk.list {R : RC} {Hv : Hp} {kp : Sg → Loca → Prop} {a : Addr} {vs : List V} {ds : List D} (hs : SqL R.K Hv a vs) (hr : Reps R Hv vs ds) : JOk R Hv kp (Itl R.K a) ds := fun Z H0 io σ H env er sm _ => by
  have h1 : SqL R.K H a vs := Same.seq (fun b o h => hid_le b o (sm b o h)) hs
  refine ⟨fun i d hd => ?_, fun i hi => ⟨vs, h1, by rw [hr.length]; exact hi⟩⟩
  obtain ⟨v, e, q⟩ := hr.getD hd
  refine ⟨⟨vs, v, h1, e⟩, fun x H' ⟨e1, h2⟩ => ?_⟩
  subst e1
  have := h2 vs h1
  rw [e] at this; cases this
  exact ⟨.refl _, q.mono sm⟩
theorem JOk.tup {R : RC} {Hv : Hp} {kp : Sg → Loca → Prop} {a : Addr} {vs : List V} {ds : List D} (hs : SqT R.K Hv a vs) (hr : Reps R Hv vs ds) : JOk R Hv kp (Itt R.K a) ds := fun Z H0 io σ H env er sm _ => by
  have h1 : SqT R.K H a vs := sqT_mono (fun b o h => hid_le b o (sm b o h)) hs
  refine ⟨fun i d hd => ?_, fun i hi => ⟨vs, h1, by rw [hr.length]; exact hi⟩⟩
  obtain ⟨v, e, q⟩ := hr.getD hd
  refine ⟨⟨vs, v, h1, e⟩, fun x H' ⟨e1, h2⟩ => ?_⟩
  subst e1
  have := h2 vs h1
  rw [e] at this; cases this
  exact ⟨.refl _, q.mono sm⟩
theorem JOk.rng {R : RC} {Hv : Hp} {kp : Sg → Loca → Prop} (lo hi : Int) : JOk R Hv kp (Itr lo (hi - lo).toNat) (rngD lo hi) := fun Z H0 io σ H env er sm _ => by
  have hl : (rngD lo hi).length = (hi - lo).toNat := by simp [rngD]
  refine ⟨fun i d hd => ?_, fun i hi' => show (hi - lo).toNat ≤ i by omega⟩
  have hlt : i < (hi - lo).toNat := by rw [← hl]; exact (List.getElem?_eq_some_iff.mp hd).1
  refine ⟨hlt, fun x H' ⟨e1, e2⟩ => ?_⟩
  subst e1 e2
  have : d = D.int (lo + (i : Nat)) := by
    unfold rngD at hd
    rw [List.getElem?_map, List.getElem?_range hlt] at hd
    cases hd; rfl
  subst this
  exact ⟨.refl _, .int _⟩

theorem zipT_at : ∀ {xs ys : List D} {i : Nat} {d : D}, (zipT xs ys)[i]? = some d → ∃ x y, xs[i]? = some x ∧ ys[i]? = some y ∧ d = .tup [x, y] := fun {xs ys i d} h => by
  unfold zipT at h
  rw [List.getElem?_zipWith] at h
  split at h
  · rename_i x y h1 h2
    exact ⟨x, y, h1, h2, (Option.some.inj h).symm⟩
  · cases h
theorem zipT_len {xs ys : List D} : (zipT xs ys).length = min xs.length ys.length := by simp [zipT]
theorem enmT_at : ∀ {xs : List D} {n i : Nat} {d : D}, (enmT n xs)[i]? = some d → ∃ x, xs[i]? = some x ∧ d = .tup [.int ((n + i : Nat) : Int), x]
  | [], _, _, _, h => by simp [enmT] at h
  | x :: xs, n, 0, d, h => ⟨x, rfl, by simp only [enmT, List.getElem?_cons_zero, Option.some.injEq] at h; rw [← h]; rfl⟩
  | x :: xs, n, i + 1, d, h => by
    simp only [enmT, List.getElem?_cons_succ] at h
    obtain ⟨y, h1, h2⟩ := enmT_at h
    exact ⟨y, h1, by rw [h2, show n + 1 + i = n + (i + 1) by omega]⟩
theorem enmT_len : ∀ {xs : List D} {n : Nat}, (enmT n xs).length = xs.length
  | [], _ => rfl
  | _ :: xs, n => congrArg (· + 1) (enmT_len (xs := xs) (n := n + 1))
/-- a new pair -/
theorem rep_pair {R : RC} {Z : Addr → Prop} {H0 : Hp} {io : Option (Nat × Addr)} {σ : Sg} {H : Hp} {env : Loca} {T : Addr} {v u : V} {d e : D} (er : ER R Z H0 io σ H env) (hT : H T = none) (h1 : Rep R (hid Z σ env H) v d) (h2 : Rep R (hid Z σ env H) u e) :
    Same H (upd H T (.tup [v, u])) ∧ Rep R (hid Z σ env (upd H T (.tup [v, u]))) (.ref T) (.tup [d, e]) := by
  have e1 : Same H (upd H T (.tup [v, u])) := same_new hT
  obtain ⟨n1, n2⟩ := er.fresh hT
  exact ⟨e1, .tup (.inl (.inl (hid_of n1 n2 upd_same))) (.cons (h1.mono (see_grow e1)) (.cons (h2.mono (see_grow e1)) .nil))⟩
theorem JOk.zipL {R : RC} {Hv : Hp} {kp : Sg → Loca → Prop} {a b : Addr} {vs us : List V} {ds es : List D} (hs : SqL R.K Hv a vs) (hr : Reps R Hv vs ds) (hs2 : SqL R.K Hv b us) (hr2 : Reps R Hv us es) : JOk R Hv kp (Itz R.K a b) (zipT ds es) := fun Z H0 io σ H env er sm _ => by
  have h1 : SqL R.K H a vs := Same.seq (fun b o h => hid_le b o (sm b o h)) hs
  have h2 : SqL R.K H b us := Same.seq (fun b o h => hid_le b o (sm b o h)) hs2
  refine ⟨fun i d hd => ?_, fun i hi => ⟨vs, us, h1, h2, by rw [zipT_len] at hi; rw [hr.length, hr2.length]; omega⟩⟩
  obtain ⟨x, y, hx, hy, rfl⟩ := zipT_at hd
  obtain ⟨v, e, q⟩ := hr.getD hx
  obtain ⟨u, e2, q2⟩ := hr2.getD hy
  refine ⟨⟨vs, us, v, u, h1, h2, e, e2⟩, fun z H' ⟨T, v', u', ez, hT, eH, f1, f2⟩ => ?_⟩
  subst ez eH
  have := f1 vs h1
  rw [e] at this; cases this
  have := f2 us h2
  rw [e2] at this; cases this
  exact rep_pair er hT (q.mono sm) (q2.mono sm)
theorem JOk.zipT {R : RC} {Hv : Hp} {kp : Sg → Loca → Prop} {a b : Addr} {vs us : List V} {ds es : List D} (hs : SqT R.K Hv a vs) (hr : Reps R Hv vs ds) (hs2 : SqT R.K Hv b us) (hr2 : Reps R Hv us es) : JOk R Hv kp (RZ.ItzT R.K a b) (Pd.zipT ds es) := fun Z H0 io σ H env er sm _ => by
  have h1 : SqT R.K H a vs := sqT_mono (fun b o h => hid_le b o (sm b o h)) hs
  have h2 : SqT R.K H b us := sqT_mono (fun b o h => hid_le b o (sm b o h)) hs2
  refine ⟨fun i d hd => ?_, fun i hi => ⟨vs, us, h1, h2, by rw [zipT_len] at hi; rw [hr.length, hr2.length]; omega⟩⟩
  obtain ⟨x, y, hx, hy, rfl⟩ := zipT_at hd
  obtain ⟨v, e, q⟩ := hr.getD hx
  obtain ⟨u, e2, q2⟩ := hr2.getD hy
  refine ⟨⟨vs, us, v, u, h1, h2, e, e2⟩, fun z H' ⟨T, v', u', ez, hT, eH, f1, f2⟩ => ?_⟩
  subst ez eH
  have := f1 vs h1
  rw [e] at this; cases this
  have := f2 us h2
  rw [e2] at this; cases this
  exact rep_pair er hT (q.mono sm) (q2.mono sm)
theorem JOk.enmL {R : RC} {Hv : Hp} {kp : Sg → Loca → Prop} {a : Addr} {vs : List V} {ds : List D} (hs : SqL R.K Hv a vs) (hr : Reps R Hv vs ds) : JOk R Hv kp (Ite R.K a) (enmT 0 ds) := fun Z H0 io σ H env er sm _ => by
  have h1 : SqL R.K H a vs := Same.seq (fun b o h => hid_le b o (sm b o h)) hs
  refine ⟨fun i d hd => ?_, fun i hi => ⟨vs, h1, by rw [enmT_len] at hi; rw [hr.length]; exact hi⟩⟩
  obtain ⟨x, hx, rfl⟩ := enmT_at hd
  obtain ⟨v, e, q⟩ := hr.getD hx
  refine ⟨⟨vs, v, h1, e⟩, fun z H' ⟨T, v', ez, hT, eH, f1⟩ => ?_⟩
  subst ez eH
  have := f1 vs h1
  rw [e] at this; cases this
  rw [Nat.zero_add]
  exact rep_pair er hT (.int _) (q.mono sm)
theorem JOk.enmT {R : RC} {Hv : Hp} {kp : Sg → Loca → Prop} {a : Addr} {vs : List V} {ds : List D} (hs : SqT R.K Hv a vs) (hr : Reps R Hv vs ds) : JOk R Hv kp (IteT R.K a) (Pd.enmT 0 ds) := fun Z H0 io σ H env er sm _ => by
  have h1 : SqT R.K H a vs := sqT_mono (fun b o h => hid_le b o (sm b o h)) hs
  refine ⟨fun i d hd => ?_, fun i hi => ⟨vs, h1, by rw [enmT_len] at hi; rw [hr.length]; exact hi⟩⟩
  obtain ⟨x, hx, rfl⟩ := enmT_at hd
  obtain ⟨v, e, q⟩ := hr.getD hx
  refine ⟨⟨vs, v, h1, e⟩, fun z H' ⟨T, v', ez, hT, eH, f1⟩ => ?_⟩
  subst ez eH
  have := f1 vs h1
  rw [e] at this; cases this
  rw [Nat.zero_add]
  exact rep_pair er hT (.int _) (q.mono sm)

/-- what must stay while it is walked -/
def kI (e : E) (σ0 : Sg) (env0 : Loca) : Sg → Loca → Prop := match e with
  | .sow i => fun σ env => σ[i]? = σ0[i]? ∧ at_ env i = at_ env0 i
  | _ => fun _ _ => True
theorem kI_of {e : E} (h : noSow e = true) (σ0 σ : Sg) (env0 env : Loca) : kI e σ0 env0 σ env := by
  cases e <;> first | trivial | cases h
theorem JOk.own {R : RC} {Hv : Hp} {σ0 : Sg} {env0 : Loca} {i : Nat} {a : Addr} {ds : List D} (h0 : σ0[i]? = some (some (.ref a))) (h1 : at_ env0 i = .own (.lst ds)) : JOk R Hv (fun σ env => σ[i]? = σ0[i]? ∧ at_ env i = at_ env0 i) (Itl R.K a) ds := fun Z H0 io σ H env er sm ⟨k1, k2⟩ => by
  rw [h1] at k2
  obtain ⟨b, e1, ro⟩ := er.own i _ (at_some k2 (by intro z; cases z))
  rw [k1, h0] at e1
  cases e1
  cases ro with
  | @lst vs _ hs hr =>
    have h2 : SqL R.K H a vs := .of hs
    refine ⟨fun j d hd => ?_, fun j hj => ⟨vs, h2, by rw [hr.length]; exact hj⟩⟩
    obtain ⟨v, e, q⟩ := hr.getD hd
    refine ⟨⟨vs, v, h2, e⟩, fun x H' ⟨e1, h3⟩ => ?_⟩
    subst e1
    have := h3 vs h2
    rw [e] at this; cases this
    exact ⟨.refl _, q⟩
section
variable {G : Gx} {gi : Str → Option Int} {X : Cx} {W : WX}
def tI (G : Gx) (X : Cx) (W : WX) (e : E) : TI := fun σ H Q => ∃ (Z : Addr → Prop) (H0 : Hp) (io : Option (Nat × Addr)) (env : Loca) (Qd : List D → Loca → Prop) (Xd : Xq),
  G.iop = io.map (·.1) ∧ ER (rcOf G X) Z H0 io σ H env ∧ Lk (rcOf G X) Z H0 io W σ H env Xd ∧ wI G e env Qd Xd ∧
  ∀ ds env' H' J, ER (rcOf G X) Z H0 io σ H' env' → Mono σ H env σ H' env' → JOk (rcOf G X) (hid Z σ env' H') (kI e σ env') J ds → Qd ds env' → Q J H'
theorem _root_.L2.PI.imp {X : Cx} {tg e : Expr} {t t' : TI} (h : PI X tg e t) (i : ∀ σ H Q, t' σ H Q → t σ H Q) : PI X tg e t' := ⟨fun pins s σ H Q I w => h.run pins s σ H Q I (i σ H Q w)⟩
/-- over a list or a tuple -/
theorem pi_any {tg l : Expr} {tl : TE} (hl : PE X l tl) : PI X tg l (fun σ H R => tl σ H fun x H1 => ∃ a, x = .ref a ∧ (((∃ xs, SqL X.K H1 a xs) ∧ R (Itl X.K a) H1) ∨ ((∃ xs, SqT X.K H1 a xs) ∧ R (Itt X.K a) H1))) := by
  refine ⟨fun pins s σ H R I h => thn (hl.run pins s σ H _ I h) fun v s1 z => ?_⟩
  obtain ⟨x, H1, J1, rv, a, rfl, q⟩ := z
  cases rv
  have new : FpOk X pins H1 s1.heap.objs.size := J1.fpOk (Nat.le_refl _) (J1.hok.fresh (Nat.le_refl _))
  have news : ∀ b ∈ [s1.heap.objs.size], FpOk X pins H1 b := fun b hb => by
    cases hb with
    | head => exact new
    | tail _ z => cases z
  rcases q with ⟨⟨xs, hq⟩, q⟩ | ⟨⟨xs, hq⟩, q⟩
  · obtain ⟨its, _, p, _⟩ := J1.list hq
    have J2 := J1.kept (t' := s1.toks) fun b o e => Heap.get?_push_of_some { cls := .type "list_iterator", data := .fields #[.ref a, rawInt 0] } e
    exact wpAny_pyIter_list p.isList ⟨_, [s1.heap.objs.size], _, _, H1, rfl, J1.kept (t' := s1.toks) (fun b o e => Heap.get?_push_of_some _ e), turn_list a _, ⟨_, Heap.get?_push_size _ rfl, rfl, rfl⟩, news, q⟩
  · obtain ⟨its, _, p, _⟩ := J1.tuple hq
    have p' : s1.heap.IsTuple a its.toArray := p
    exact wpAny_pyIter_tuple p' ⟨_, [s1.heap.objs.size], _, _, H1, rfl, J1.kept (t' := s1.toks) (fun b o e => Heap.get?_push_of_some _ e), turn_tuple a _, ⟨_, Heap.get?_push_size _ rfl, rfl, rfl⟩, news, q⟩
theorem s_seq {e : E} {tg py : Expr} (h : PE X py (tE G X W e)) : PI X tg py (tI G X W (.seq e)) := by
  refine (pi_any h).imp ?_
  rintro σ H Q ⟨Z, H0, io, env, Qd, Xd, hi, er, lk, w, fin⟩
  unfold wI at w
  refine ⟨Z, H0, io, env, _, Xd, hi, er, lk, w, fun d env1 v H1 er1 m1 r1 _ w1 => ?_⟩
  obtain ⟨ds, hd, w1⟩ := w1
  cases d with
  | tup xs =>
    cases hd
    cases r1 with
    | tup hs hr => exact ⟨_, rfl, .inr ⟨⟨_, sqT_mono hid_le hs⟩, fin _ env1 H1 _ er1 m1 (JOk.tup (R := rcOf G X) hs hr) w1⟩⟩
  | lst xs =>
    cases hd
    cases r1 with
    | lst hs hr => exact ⟨_, rfl, .inl ⟨⟨_, .of (hid_le _ _ hs)⟩, fin _ env1 H1 _ er1 m1 (JOk.list (R := rcOf G X) (.of hs) hr) w1⟩⟩
  | frz xs =>
    cases hd
    cases r1 with
    | frz hs hr => exact ⟨_, rfl, .inl ⟨⟨_, hid_le.seq hs⟩, fin _ env1 H1 _ er1 m1 (JOk.list (R := rcOf G X) hs hr) w1⟩⟩
  | _ => cases hd
theorem seq_cases {R : RC} {Hv : Hp} {v : V} {d : D} {ds : List D} (r : Rep R Hv v d) (h : seqD d = some ds) : ∃ a vs, v = .ref a ∧ Reps R Hv vs ds ∧ ((SqL R.K Hv a vs ∧ ∀ ys, d ≠ .tup ys) ∨ (SqT R.K Hv a vs ∧ d = .tup ds)) := by
  cases d with
  | tup xs =>
    cases h
    cases r with
    | tup hs hr => exact ⟨_, _, rfl, hr, .inr ⟨hs, rfl⟩⟩
  | lst xs =>
    cases h
    cases r with
    | lst hs hr => exact ⟨_, _, rfl, hr, .inl ⟨.of hs, fun ys z => by cases z⟩⟩
  | frz xs =>
    cases h
    cases r with
    | frz hs hr => exact ⟨_, _, rfl, hr, .inl ⟨hs, fun ys z => by cases z⟩⟩
  | _ => cases h
theorem s_sow {i : Nat} {x : Str} {tg : Expr} {pos : Pos} (hN : X.N[i]? = some x) (hv : visC X.env.scope x = true) : PI X tg (.Name x pos) (tI G X W (.sow i)) := by
  refine (pi_any (s_varP (W := W) (G := G) hN hv)).imp ?_
  rintro σ H Q ⟨Z, H0, io, env, Qd, Xd, hi, er, lk, w, fin⟩
  unfold wI at w
  cases hc : at_ env i with
  | emp => rw [hc] at w; exact w.elim
  | val d =>
    rw [hc] at w
    obtain ⟨ds, hd, w⟩ := w
    refine ⟨Z, H0, io, env, fun o e => o = .dat d ∧ e = env, Xd, hi, er, lk, (by unfold pk; dsimp only; rw [hc]; exact ⟨rfl, rfl⟩), fun o env1 v H1 er1 m1 r1 ⟨e1, e2⟩ => ?_⟩
    subst e1 e2
    have r1 : Rep (rcOf G X) (hid Z σ env1 H1) v d := r1
    obtain ⟨a, vs, rfl, rr, k⟩ := seq_cases r1 hd
    rcases k with ⟨sx, _⟩ | ⟨sx, _⟩
    · exact ⟨a, rfl, .inl ⟨⟨_, Same.seq hid_le sx⟩, fin _ env1 H1 _ er1 m1 (JOk.list (R := rcOf G X) sx rr) w⟩⟩
    · exact ⟨a, rfl, .inr ⟨⟨_, sqT_mono hid_le sx⟩, fin _ env1 H1 _ er1 m1 (JOk.tup (R := rcOf G X) sx rr) w⟩⟩
  | own d =>
    rw [hc] at w
    cases d with
    | lst ds =>
      refine ⟨Z, H0, io, env, fun o e => o = .slot i ∧ e = env, Xd, hi, er, lk, (by unfold pk; dsimp only; rw [hc]; exact ⟨rfl, rfl⟩), fun o env1 v H1 er1 m1 r1 ⟨e1, e2⟩ => ?_⟩
      subst e1 e2
      have r1 : σ[i]? = some (some v) := r1
      obtain ⟨a, e1, ro⟩ := er1.own i _ (at_some hc (by intro z; cases z))
      rw [r1] at e1
      cases e1
      cases ro with
      | @lst vs _ hs hr => exact ⟨a, rfl, .inl ⟨⟨vs, .of hs⟩, fin _ env1 H1 _ er1 m1 (JOk.own (R := rcOf G X) r1 hc) w⟩⟩
    | _ => exact w.elim
theorem zip_cases {ds : List D} {p : List D × List D} (h : zipD ds = some p) : ∃ d e, ds = [d, e] ∧ seqD d = some p.1 ∧ seqD e = some p.2 ∧ ((d = .tup p.1 ∧ e = .tup p.2) ∨ ((∀ ys, d ≠ .tup ys) ∧ ∀ ys, e ≠ .tup ys)) := by
  unfold zipD at h
  split at h
  · cases h
    exact ⟨_, _, rfl, rfl, rfl, .inl ⟨rfl, rfl⟩⟩
  · cases h
    exact ⟨_, _, rfl, rfl, rfl, .inr ⟨(fun ys z => nomatch z), (fun ys z => nomatch z)⟩⟩
  · cases h
    exact ⟨_, _, rfl, rfl, rfl, .inr ⟨(fun ys z => nomatch z), (fun ys z => nomatch z)⟩⟩
  · cases h
    exact ⟨_, _, rfl, rfl, rfl, .inr ⟨(fun ys z => nomatch z), (fun ys z => nomatch z)⟩⟩
  · cases h
    exact ⟨_, _, rfl, rfl, rfl, .inr ⟨(fun ys z => nomatch z), (fun ys z => nomatch z)⟩⟩
  · cases h
theorem s_zip {es : E} {pa pb : Expr} {elts : List Expr} {kk : Nat} {tpos p pos : Pos} (hg : Gl X "zip") (hm : X.mg "zip" = none) (ha : PA X [pa, pb] (tA G X W es)) (hs : ∀ e q, pa ≠ .Starred e q) (hs2 : ∀ e q, pb ≠ .Starred e q) :
    PI X (.Tuple elts kk tpos) (.Call (.Name "zip" p) [pa, pb] [] pos) (tI G X W (.zip es)) := by
  refine (RZ.pi_zipA hg hm ha (star_ok hs _ _) (by rw [star_ok hs2]; rfl)).imp ?_
  rintro σ H Q ⟨Z, H0, io, env, Qd, Xd, hi, er, lk, w, fin⟩
  unfold wI at w
  refine ⟨Z, H0, io, env, _, Xd, hi, er, lk, w, fun ds env1 vs H1 er1 m1 r1 l1 w1 => ?_⟩
  obtain ⟨p, hp, w1⟩ := w1
  obtain ⟨d, e, rfl, h1, h2, hk⟩ := zip_cases hp
  cases r1 with
  | cons ra rr =>
    cases rr with
    | cons rb rr =>
      cases rr
      obtain ⟨a, xs, rfl, rx, kx⟩ := seq_cases ra h1
      obtain ⟨b, ys, rfl, ry, ky⟩ := seq_cases rb h2
      refine ⟨a, b, xs, ys, rfl, ?_⟩
      rcases kx with ⟨sx, nx⟩ | ⟨sx, tx⟩
      · rcases ky with ⟨sy, ny⟩ | ⟨sy, ty⟩
        · exact .inl ⟨Same.seq hid_le sx, Same.seq hid_le sy, fin _ env1 H1 _ er1 m1 (JOk.zipL (R := rcOf G X) sx rx sy ry) w1⟩
        · rcases hk with ⟨k1, _⟩ | ⟨_, k2⟩
          · exact absurd k1 (nx _)
          · exact absurd ty (k2 _)
      · rcases ky with ⟨sy, ny⟩ | ⟨sy, ty⟩
        · rcases hk with ⟨_, k1⟩ | ⟨k2, _⟩
          · exact absurd k1 (ny _)
          · exact absurd tx (k2 _)
        · exact .inr ⟨sqT_mono hid_le sx, sqT_mono hid_le sy, fin _ env1 H1 _ er1 m1 (JOk.zipT (R := rcOf G X) sx rx sy ry) w1⟩
theorem s_enm {es : E} {pa : Expr} {elts : List Expr} {kk : Nat} {tpos p pos : Pos} (hg : Gl X "enumerate") (hm : X.mg "enumerate" = none) (ha : PA X [pa] (tA G X W es)) (hs : ∀ e q, pa ≠ .Starred e q) :
    PI X (.Tuple elts kk tpos) (.Call (.Name "enumerate" p) [pa] [] pos) (tI G X W (.enm es)) := by
  refine (pi_enumA hg hm ha (star_ok hs _ _)).imp ?_
  rintro σ H Q ⟨Z, H0, io, env, Qd, Xd, hi, er, lk, w, fin⟩
  unfold wI at w
  refine ⟨Z, H0, io, env, _, Xd, hi, er, lk, w, fun ds env1 vs H1 er1 m1 r1 l1 w1 => ?_⟩
  obtain ⟨p, hp, w1⟩ := w1
  match ds, r1, hp with
  | [d], .cons ra .nil, hp =>
    obtain ⟨a, xs, rfl, rx, kx⟩ := seq_cases ra hp
    refine ⟨a, rfl, ?_⟩
    rcases kx with ⟨sx, _⟩ | ⟨sx, _⟩
    · exact .inl ⟨⟨xs, Same.seq hid_le sx⟩, fin _ env1 H1 _ er1 m1 (JOk.enmL (R := rcOf G X) sx rx) w1⟩
    · exact .inr ⟨⟨xs, sqT_mono hid_le sx⟩, fin _ env1 H1 _ er1 m1 (JOk.enmT (R := rcOf G X) sx rx) w1⟩
theorem s_rng1 {es : E} {tg pa : Expr} {p pos : Pos} (hg : Gl X "range") (hm : X.mg "range" = none) (ha : PA X [pa] (tA G X W es)) (hl : lnE es = 1) (hs : ∀ e q, pa ≠ .Starred e q) : PI X tg (.Call (.Name "range" p) [pa] [] pos) (tI G X W (.rng es)) := by
  refine (pi_range1 hg hm ha (star_ok hs _ _)).imp ?_
  rintro σ H Q ⟨Z, H0, io, env, Qd, Xd, hi, er, lk, w, fin⟩
  unfold wI at w
  refine ⟨Z, H0, io, env, _, Xd, hi, er, lk, w, fun ds env1 vs H1 er1 m1 r1 l1 w1 => ?_⟩
  obtain ⟨p, hp, b1, b2, w1⟩ := w1
  rcases rng_vals r1 hp with ⟨n, rfl, rfl⟩ | ⟨i, j, rfl, rfl⟩
  · refine ⟨n, rfl, b2.1, b2.2, ?_⟩
    have q := JOk.rng (R := rcOf G X) (Hv := hid Z σ env1 H1) (kp := kI (.rng es) σ env1) 0 n
    rw [Int.sub_zero] at q
    exact fin _ env1 H1 _ er1 m1 q w1
  · have := r1.length
    rw [l1, hl] at this
    cases this
theorem s_rng2 {es : E} {tg pa pb : Expr} {p pos : Pos} (hg : Gl X "range") (hm : X.mg "range" = none) (ha : PA X [pa, pb] (tA G X W es)) (hl : lnE es = 2) (hs : ∀ e q, pa ≠ .Starred e q) (hs2 : ∀ e q, pb ≠ .Starred e q) :
    PI X tg (.Call (.Name "range" p) [pa, pb] [] pos) (tI G X W (.rng es)) := by
  refine (pi_range2 hg hm ha (by rw [star_ok hs, star_ok hs2]; rfl) (star_ok hs2 _ _)).imp ?_
  rintro σ H Q ⟨Z, H0, io, env, Qd, Xd, hi, er, lk, w, fin⟩
  unfold wI at w
  refine ⟨Z, H0, io, env, _, Xd, hi, er, lk, w, fun ds env1 vs H1 er1 m1 r1 l1 w1 => ?_⟩
  obtain ⟨p, hp, b1, b2, w1⟩ := w1
  rcases rng_vals r1 hp with ⟨n, rfl, rfl⟩ | ⟨i, j, rfl, rfl⟩
  · have := r1.length
    rw [l1, hl] at this
    cases this
  · exact ⟨i, j, rfl, ⟨b1.1, b1.2, b2.1, b2.2⟩, fin _ env1 H1 _ er1 m1 (JOk.rng (R := rcOf G X) i j) w1⟩
/-- range(..) as an argument, its ends by any list of arguments -/
theorem prg_any {pa : Expr} {ps : List Expr} {ta : TA} {p pos : Pos} (hg : Gl X "range") (hm : X.mg "range" = none) (ha : PA X (pa :: ps) ta) (hs : ∀ e q, pa ≠ .Starred e q) (hb : (backTo pos (starEach ps X.env)).any (·.1) = false) :
    PRg X (.Call (.Name "range" p) (pa :: ps) [] pos) (fun σ H Q => ta σ H fun vs H1 => (∃ n, vs = [.int n] ∧ Q 0 n H1) ∨ ∃ i j, vs = [.int i, .int j] ∧ Q i j H1) := by
  intro pins s σ H Q I h
  refine Call_ (ld_blt I hg hm boot_range (PyProof.Rows.callWith_type1 (thn (ha.run pos pins s σ H _ I h) fun us s1 z => ?_) (star_ok hs _ _) hb))
  obtain ⟨vs, H1, J, rv, q⟩ := z
  rcases q with ⟨n, rfl, q⟩ | ⟨i, j, rfl, q⟩
  · obtain ⟨u, rfl, t, rfl⟩ := vals1 rv
    exact call_range_1 ⟨s1.heap.objs.size, 0, n, _, _, _, H1, rfl, IsRange.new _ _ _ _ _ _ _, J.kept fun b o e => Heap.get?_push_of_some _ e, q⟩
  · obtain ⟨u, u', rfl, ⟨t, rfl⟩, ⟨t', rfl⟩⟩ := vals2 rv
    exact call_range_2 ⟨s1.heap.objs.size, i, j, _, _, _, H1, rfl, IsRange.new _ _ _ _ _ _ _, J.kept fun b o e => Heap.get?_push_of_some _ e, q⟩
/-- list(range(..)) -/
theorem s_lrng {es : E} {pa : Expr} {ps : List Expr} {p p2 pos pos2 : Pos} (hc : X.calm = true) (hg : Gl X "list") (hm : X.mg "list" = none) (hg2 : Gl X "range") (hm2 : X.mg "range" = none) (ha : PA X (pa :: ps) (tA G X W es)) (hs : ∀ e q, pa ≠ .Starred e q)
    (hb : (backTo pos2 (starEach ps X.env)).any (·.1) = false) : PE X (.Call (.Name "list" p) [.Call (.Name "range" p2) (pa :: ps) [] pos2] [] pos) (tE G X W (.lrng es)) := by
  refine (pe_listRg hc hg hm (prg_any hg2 hm2 ha hs hb)).imp ?_
  rintro σ H Q ⟨Z, H0, io, env, Qd, Xd, hi, er, lk, w, fin⟩
  unfold wE at w
  refine ⟨Z, H0, io, env, _, Xd, hi, er, lk, w, fun ds env1 vs H1 er1 m1 r1 l1 w1 => ?_⟩
  obtain ⟨q, hq, ok, w1⟩ := w1
  rcases rng_vals r1 hq with ⟨n, rfl, rfl⟩ | ⟨i, j, rfl, rfl⟩
  · exact .inl ⟨n, rfl, ok, fun p hp => fin_ans m1 fin (.newLst (f := true) er1 hp (reps_rg 0 n)) (fun _ => rfl) w1⟩
  · exact .inr ⟨i, j, rfl, ok, fun p hp => fin_ans m1 fin (.newLst (f := true) er1 hp (reps_rg i j)) (fun _ => rfl) w1⟩
end
end Pd

/-! Soundness of expressions: comprehensions. -/
namespace Pd
open L2 PyProof.Rows PySem.Spec PySem

/-! ### targets -/
theorem wipe_put (σ : Sg) {i : Nat} {x : Option V} : ∀ {is : List Nat}, i ∈ is → L2.wipe (σ.set i x) is = L2.wipe σ is := fun {is} h => by
  refine List.ext_getElem? fun j => ?_
  by_cases hj : j ∈ is
  · have one : ∀ (s : Sg) (l : List Nat), j ∈ l → (L2.wipe s l)[j]? = if j < s.length then some none else none := fun s l => by
      induction l with
      | nil => intro z; cases z
      | cons k r ih =>
        intro hm
        show ((L2.wipe s r).set k none)[j]? = _
        by_cases q : k = j
        · subst q
          by_cases hk : k < s.length
          · rw [if_pos hk, List.getElem?_set_self (by rw [wipe_length]; exact hk)]
          · rw [if_neg hk, List.getElem?_eq_none (by simp [wipe_length]; omega)]
        · rw [List.getElem?_set_ne q]
          refine ih ?_
          rcases List.mem_cons.mp hm with e | e
          · exact absurd e.symm q
          · exact e
    rw [one _ _ hj, one _ _ hj, List.length_set]
  · rw [wipe_out hj, wipe_out hj, List.getElem?_set_ne fun e => hj (by rw [← e]; exact h)]
theorem wipe_wipe (σ : Sg) (is : List Nat) : L2.wipe (L2.wipe σ is) is = L2.wipe σ is := by
  have gen : ∀ (l : List Nat) (s : Sg), (∀ i ∈ l, ∀ x, s[i]? = some x → x = none) → L2.wipe s l = s := fun l => by
    induction l with
    | nil => intro s _; rfl
    | cons k r ih =>
      intro s h
      show (L2.wipe s r).set k none = s
      rw [ih s fun i hi => h i (List.mem_cons_of_mem _ hi)]
      refine List.ext_getElem? fun j => ?_
      by_cases q : k = j
      · subst q
        by_cases hk : k < s.length
        · rw [List.getElem?_set_self hk, List.getElem?_eq_getElem hk, h k List.mem_cons_self _ (List.getElem?_eq_getElem hk)]
        · rw [List.getElem?_eq_none (by simp; omega), List.getElem?_eq_none (by omega)]
      · rw [List.getElem?_set_ne q]
  refine gen is _ fun i hi x hx => ?_
  cases x with
  | none => rfl
  | some v => exact absurd hi (wipe_some hx).2
section
variable {R : RC} {Z : Addr → Prop} {H0 H H' : Hp} {io : Option (Nat × Addr)} {σ : Sg} {env : Loca}
def setAll : Sg → List Nat → List V → Sg
  | σ, i :: is, v :: vs => setAll (σ.set i (some v)) is vs
  | σ, _, _ => σ
theorem ER.putAll : ∀ {σ : Sg} {env : Loca} {is : List Nat} {ds : List D} {vs : List V}, ER R Z H0 io σ H env → Reps R (hid Z σ env H) vs ds → (∀ i ∈ is, ∀ a, io ≠ some (i, a)) →
    ER R Z H0 io (setAll σ is vs) H (Pd.putAll env is ds) ∧ Mono σ H env (setAll σ is vs) H (Pd.putAll env is ds)
  | σ, env, [], _, _, r, _, _ => ⟨r, .refl⟩
  | σ, env, i :: is, _, _, r, .nil, _ => ⟨r, .refl⟩
  | σ, env, i :: is, _, _, r, .cons h t, hi => by
    obtain ⟨r1, m1⟩ := r.put h (hi i List.mem_cons_self)
    obtain ⟨r2, m2⟩ := ER.putAll r1 (t.mono m1.see) fun j hj => hi j (List.mem_cons_of_mem _ hj)
    exact ⟨r2, m1.trans m2⟩
theorem wipe_all {js : List Nat} : ∀ {is : List Nat} {vs : List V} {σ : Sg}, (∀ i ∈ is, i ∈ js) → L2.wipe (setAll σ is vs) js = L2.wipe σ js
  | [], _, _, _ => rfl
  | _ :: _, [], _, _ => rfl
  | i :: is, v :: vs, σ, h => by
    show L2.wipe (setAll (σ.set i (some v)) is vs) js = _
    rw [wipe_all (is := is) (vs := vs) fun j hj => h j (List.mem_cons_of_mem _ hj)]
    exact wipe_put σ (h i List.mem_cons_self)
end
/-- a target of a loop or comprehension, by values -/
def gT (K : PySem.W.Frag) (is : List Nat) (tp : Bool) : TG := fun v σ H Q => match tp with
  | false => ∃ i, is = [i] ∧ Q (σ.set i (some v)) H
  | true => ∃ a vs, v = .ref a ∧ SqT K H a vs ∧ vs.length = is.length ∧ Q (setAll σ is vs) H
theorem _root_.L2.PG.imp {X : Cx} {e : Expr} {t t' : TG} (h : PG X e t) (i : ∀ v σ H Q, t' v σ H Q → t v σ H Q) : PG X e t' := ⟨fun pins s σ H v u Q I r w => h.run pins s σ H v u Q I r (i v σ H Q w)⟩
theorem _root_.L2.PGs.imp {X : Cx} {e : List Expr} {t t' : TGs} (h : PGs X e t) (i : ∀ v σ H Q, t' v σ H Q → t v σ H Q) : PGs X e t' := ⟨fun pins s σ H v u Q I r w => h.run pins s σ H v u Q I r (i v σ H Q w)⟩
/-- the names of a target can be stored in X -/
def Stor (X : Cx) (N : List Str) (sc : Scope) : Prop := X.N = N ∧ ∀ x, locC sc x = true → Loc X.env.scope x ∧ (X.fn x = true ∨ X.env.scope.names.lookup x = some .local)
theorem pgs_names {X : Cx} {N : List Str} {sc : Scope} (S : Stor X N sc) (nd : N.Nodup) : ∀ {is : List Nat} {es : List Expr}, mNames N sc is es = true → PGs X es (fun vs σ H Q => vs.length = is.length ∧ Q (setAll σ is vs) H) ∧ (assignEach es X.env).length = is.length ∧ (assignEach es X.env).findIdx? (·.1) = none
  | [], [], _ => ⟨pgs_nil.imp fun v σ H Q h => ⟨List.eq_nil_of_length_eq_zero h.1, by
      obtain ⟨h1, h2⟩ := h
      have : v = [] := List.eq_nil_of_length_eq_zero h1
      subst this
      exact h2⟩, rfl, rfl⟩
  | i :: is, .Name x p :: es, h => by
    simp only [mNames, Bool.and_eq_true, decide_eq_true_eq] at h
    obtain ⟨⟨h1, h2⟩, h3⟩ := h
    obtain ⟨g, hl, hf⟩ := pgs_names S nd h3
    obtain ⟨s1, s2⟩ := S.2 x h2
    have pg : PG X (.Name x p) (gName i) := pg_name (by rw [S.1]; exact nd) (by rw [S.1]; exact h1) s1 s2
    refine ⟨(pgs_cons pg g rfl).imp fun v σ H Q h => ?_, congrArg (· + 1) hl, ?_⟩
    · obtain ⟨hl, hq⟩ := h
      match v, hl, hq with
      | v :: vs, hl, hq => exact ⟨v, vs, rfl, Nat.succ.inj hl, hq⟩
    · show List.findIdx? _ ((false, _) :: assignEach es X.env) = none
      simp only [List.findIdx?_cons]
      rw [hf]
      rfl
  | [], _ :: _, h => by simp [mNames] at h
  | _ :: _, [], h => by simp [mNames] at h
theorem pg_T {X : Cx} {N : List Str} {sc : Scope} (S : Stor X N sc) (nd : N.Nodup) (hc : X.calm = true) {is : List Nat} {tp : Bool} {tg : Expr} (h : mTgt N sc is tp tg = true) : PG X tg (gT X.K is tp) := by
  cases tp with
  | false =>
    cases tg with
    | Name x p =>
      simp only [mTgt, tgNames, Bool.and_eq_true] at h
      obtain ⟨⟨h1, h2⟩, _⟩ := h
      match is, h1, h2 with
      | [i], _, h2 =>
        simp only [mNames, Bool.and_true, Bool.and_eq_true, decide_eq_true_eq] at h2
        obtain ⟨s1, s2⟩ := S.2 x h2.2
        refine (pg_name (by rw [S.1]; exact nd) (by rw [S.1]; exact h2.1) s1 s2).imp fun v σ H Q q => ?_
        obtain ⟨j, e, q⟩ := q
        cases e
        exact q
    | _ => simp [mTgt] at h
  | true =>
    cases tg with
    | Tuple es k p =>
      simp only [mTgt, tgNames, Bool.and_eq_true, Bool.true_and] at h
      obtain ⟨g, hl, hf⟩ := pgs_names S nd h.1
      refine (pg_tup hc g hl hf).imp fun v σ H Q q => ?_
      obtain ⟨a, vs, e, hs, hv, q⟩ := q
      exact ⟨a, vs, e, hs, hv, hv, q⟩
    | _ => simp [mTgt] at h
/-- a target over data -/
theorem of_tgt {R : RC} {Z : Addr → Prop} {H0 H : Hp} {io : Option (Nat × Addr)} {σ : Sg} {env : Loca} {is : List Nat} {tp : Bool} {d : D} {v : V} {k : Loca → Prop} {Q : Sg → Hp → Prop} (r : ER R Z H0 io σ H env) (hv : Rep R (hid Z σ env H) v d) (hi : ∀ i ∈ is, ∀ a, io ≠ some (i, a))
    (w : wTgt is tp d env k) (hQ : ∀ σ' env', ER R Z H0 io σ' H env' → Mono σ H env σ' H env' → (∀ js, (∀ i ∈ is, i ∈ js) → L2.wipe σ' js = L2.wipe σ js) → k env' → Q σ' H) : gT R.K is tp v σ H Q := by
  cases tp with
  | false =>
    match is, w, hi with
    | [i], w, hi =>
      obtain ⟨r1, m1⟩ := r.put hv (hi i List.mem_cons_self)
      exact ⟨i, rfl, hQ _ _ r1 m1 (fun js h => wipe_put σ (h i List.mem_cons_self)) w⟩
  | true =>
    cases d with
    | tup ds =>
      obtain ⟨hl, w⟩ := w
      cases hv with
      | tup hs hr =>
        obtain ⟨r1, m1⟩ := r.putAll hr hi
        exact ⟨_, _, rfl, sqT_mono hid_le hs, by rw [hr.length, hl], hQ _ _ r1 m1 (fun js h => wipe_all h) w⟩
    | _ => exact (by cases is <;> exact w.elim)

/-! ### comprehensions -/
section
variable {G : Gx} {gi : Str → Option Int} {X : Cx} {W : WX}
abbrev W0 : WX := fun _ _ _ _ => False
/-- the test of a comprehension -/
def tC' (G : Gx) (X : Cx) (c : E) : TT := tT G X W0 (fun env Q Xd => (∀ x env, ¬ Xd x env) ∧ wC G c env Q)
theorem kI_wipe {it : E} {is : List Nat} {σ : Sg} {env1 env2 : Loca} (h : kpN it is) (k : kpE it env1 env2) : kI it σ env1 (L2.wipe σ is) env2 := by
  cases it with
  | sow i => exact ⟨wipe_out h, k⟩
  | _ => trivial
theorem lc_red {is : List Nat} {tp : Bool} {it c elt : E} {σ : Sg} {H : Hp} {Q : VK} (h : tE G X W (.lc is tp it c elt) σ H Q) : tLc (tI G X W it) (gT X.K is tp) (tC' G X c) (tE G X W0 elt) is σ H Q := by
  obtain ⟨Z, H0, io, env, Qd, Xd, hi, er, lk, w, fin⟩ := h
  unfold wE at w
  refine ⟨Z, H0, io, env, _, Xd, hi, er, lk, w, fun ds env1 H1 J er1 m1 jok w1 => ?_⟩
  intro D hD
  obtain ⟨hkn, hno, hni, w1⟩ := w1
  have nio : ∀ i ∈ is, ∀ a, io ≠ some (i, a) := fun i h a q => hni i h (by rw [hi, q]; rfl)
  have hDio : ∀ k, io ≠ some (k, D) := fun k q => by
    obtain ⟨u, hu⟩ := er1.iosH q
    rw [hD] at hu; cases hu
  have e1 : Same H1 (upd H1 D (.lst [])) := same_new hD
  have h0D : H0 D = none := er1.freshOld hD
  obtain ⟨erD, _⟩ := er1.hide hD e1 upd_same
  obtain ⟨er2, m2⟩ := erD.wipe is nio
  obtain ⟨_, mw⟩ := er1.wipe is nio
  have nown : ∀ {σ' : Sg} {H' : Hp} {env' : Loca}, ER (rcOf G X) (zx Z D) H0 io σ' H' env' → ¬ Own σ' env' D := fun {σ' H' env'} r h => let ⟨k, q⟩ := r.zown D h (.inr rfl); hDio k q
  have wfix : ∀ {s : Sg}, (∀ js, (∀ i ∈ is, i ∈ js) → L2.wipe s js = L2.wipe (L2.wipe σ is) js) → L2.wipe s is = L2.wipe σ is := fun {s} h => by
    rw [h is fun _ h => h]
    exact wipe_wipe σ is
  refine ⟨fun i m H' => ∃ (acc : List Pd.D) (envt : Loca) (vs : List V), m = ds.length - i ∧ i ≤ ds.length ∧ H' D = some (.lst vs) ∧ Reps (rcOf G X) (hid (zx Z D) (L2.wipe σ is) (wipeC envt is) H') vs acc ∧
    ER (rcOf G X) (zx Z D) H0 io (L2.wipe σ is) H' (wipeC envt is) ∧ Mono (L2.wipe σ is) H1 (wipeC env1 is) (L2.wipe σ is) H' (wipeC envt is) ∧
    lcLoop (fun (d : Pd.D) (envt : Loca) (k : Option Pd.D → Loca → Prop) => kpE it env1 (wipeC envt is) ∧ wTgt is tp d (wipeC envt is) fun env2 => wC G c env2 fun r env3 => if r = true then wE G elt env3 (fun y env4 => k (some y) env4) (fun _ _ => False) else k none env3)
      (ds.drop i) acc envt (fun out envf => kpE it env1 (wipeC envf is) ∧ Qd (.lst out) (backC env1 (wipeC envf is) is)), ⟨ds.length, [], env1, [], by omega, by omega, upd_same, .nil, er2, mono_grow e1, w1⟩, ?_⟩
  rintro i m H2 ⟨acc, envt, vs, rfl, hil, hD2, hacc, erT, mT, wl⟩
  have seen : Same (hid Z σ env1 H1) (hid (zx Z D) (L2.wipe σ is) (wipeC envt is) H2) := fun b o h => by
    refine mT.see b o (mw.see b o ?_)
    obtain ⟨a1, a2, a3⟩ := hid_some h
    refine hid_of (fun z => ?_) a2 a3
    rcases z with z | rfl
    · exact a1 z
    · rw [hD] at a3; cases a3
  have kpw : kpE it env1 (wipeC envt is) := by
    by_cases hlt : i < ds.length
    · rw [List.drop_eq_getElem_cons hlt, lcLoop] at wl
      exact wl.1
    · rw [List.drop_of_length_le (by omega), lcLoop] at wl
      exact wl.1
  obtain ⟨jgo, jstop⟩ := jok (zx Z D) H0 io (L2.wipe σ is) H2 (wipeC envt is) erT seen (kI_wipe hkn kpw)
  by_cases hlt : i < ds.length
  · right
    have hd : ds[i]? = some ds[i] := List.getElem?_eq_getElem hlt
    obtain ⟨go, yl⟩ := jgo i _ hd
    rw [List.drop_eq_getElem_cons hlt, lcLoop] at wl
    replace wl := wl.2
    refine ⟨go, fun H' => ∃ (acc : List Pd.D) (envt : Loca) (vs : List V), H' D = some (.lst vs) ∧ Reps (rcOf G X) (hid (zx Z D) (L2.wipe σ is) (wipeC envt is) H') vs acc ∧
      ER (rcOf G X) (zx Z D) H0 io (L2.wipe σ is) H' (wipeC envt is) ∧ Mono (L2.wipe σ is) H1 (wipeC env1 is) (L2.wipe σ is) H' (wipeC envt is) ∧
      lcLoop (fun (d : Pd.D) (envt : Loca) (k : Option Pd.D → Loca → Prop) => kpE it env1 (wipeC envt is) ∧ wTgt is tp d (wipeC envt is) fun env2 => wC G c env2 fun r env3 => if r = true then wE G elt env3 (fun y env4 => k (some y) env4) (fun _ _ => False) else k none env3)
        (ds.drop (i + 1)) acc envt (fun out envf => kpE it env1 (wipeC envf is) ∧ Qd (.lst out) (backC env1 (wipeC envf is) is)), fun H' ⟨a1, a2, a3, a4, a5, a6, a7, a8⟩ => ⟨ds.length - (i + 1), by omega, a1, a2, a3, rfl, by omega, a4, a5, a6, a7, a8⟩, fun x H3 y => ?_⟩
    obtain ⟨s3, rx⟩ := yl x H3 y
    have er3 := erT.grow s3
    have m3 : Mono (L2.wipe σ is) H1 (wipeC env1 is) (L2.wipe σ is) H3 (wipeC envt is) := mT.trans (mono_grow s3)
    have hD3 : H3 D = some (.lst vs) := s3 _ _ hD2
    have hacc3 := hacc.mono (see_grow (Z := zx Z D) (σ := L2.wipe σ is) (env := wipeC envt is) s3)
    refine of_tgt (R := rcOf G X) er3 rx nio wl fun σ4 env4 er4 m4 hw4 w4 => ⟨wfix hw4, ?_⟩
    refine ⟨zx Z D, H0, io, env4, _, (fun _ _ => False), hi, er4, (fun _ _ _ _ _ _ _ _ h => h.elim), ⟨fun _ _ h => h, w4⟩, fun r env5 H5 er5 m5 w5 => ?_⟩
    cases r with
    | false =>
      rw [if_neg Bool.false_ne_true] at w5 ⊢
      obtain ⟨er6, m6⟩ := er5.wipe is nio
      rw [wfix hw4] at er6 m6
      have mm := (m4.trans m5).trans m6
      exact ⟨acc, env5, vs, (m4.trans m5).keep D _ hD3 (nown er3), hacc3.mono mm.see, er6, m3.trans mm, w5⟩
    | true =>
      rw [if_pos rfl] at w5 ⊢
      refine ⟨zx Z D, H0, io, env5, _, (fun _ _ => False), hi, er5, (fun _ _ _ _ _ _ _ _ h => h.elim), w5, fun y env6 v6 H6 er6 m6 r6 _ w6 => ?_⟩
      have hD6 : H6 D = some (.lst vs) := ((m4.trans m5).trans m6).keep D _ hD3 (nown er3)
      obtain ⟨hlen, w6⟩ := w6
      refine ⟨vs, hD6, by rw [hacc3.length]; exact hlen, ?_⟩
      obtain ⟨er7, m7⟩ := er6.wipe is nio
      rw [wfix hw4] at er7 m7
      have mm := ((m4.trans m5).trans m6).trans m7
      obtain ⟨er8, s8⟩ := er7.updHid (o := .lst (vs ++ [v6])) h0D (nown er7)
      have m8 := m3.trans mm
      refine ⟨acc ++ [y], env6, vs ++ [v6], upd_same, ((hacc3.mono mm.see).append (.cons (r6.mono m7.see) .nil)).mono (s8 (env' := env6)), er8, ⟨fun b o h k => ?_, m8.ow, fun b o h => ?_⟩, w6⟩
      · rw [upd_ne (fun z => by rw [z, hD] at h; cases h)]
        exact m8.keep b o h k
      · by_cases q : b = D
        · exact ⟨_, by rw [q]; exact upd_same⟩
        · obtain ⟨u, hu⟩ := m8.tr b o h
          exact ⟨u, by rw [upd_ne q]; exact hu⟩
  · left
    have ei : i = ds.length := by omega
    subst ei
    rw [List.drop_length, lcLoop] at wl
    replace wl := wl.2
    refine ⟨jstop _ (Nat.le_refl _), ?_⟩
    obtain ⟨er9, m9⟩ := erT.back (σ0 := σ) (env0 := env1) is nio hno fun i _ d e => by
      obtain ⟨v, h1, h2⟩ := er1.cell i d (at_some e (by intro z; cases z))
      exact ⟨v, h1, h2.mono seen⟩
    rw [back_self] at er9 m9
    have mA := ((m1.trans mw).trans mT).trans m9
    have hacc9 := hacc.mono m9.see
    have nz : ¬ Z D := (er1.fresh hD).1
    refine fin (.lst acc) _ (.ref D) H2 er9.unhide mA (.lst (hid_of nz (nown er9) hD2) (hacc9.mono hid_zx)) (fun _ _ => ⟨D, rfl, m1.free hD, er9, nz, h0D, hDio, .lst hD2 hacc9⟩) wl
end
end Pd

/-! Soundness of expressions: all of them. -/
namespace Pd
open L2 PyProof.Rows PySem.Spec PySem

theorem no_star (M : Mx) (e : E) (sc : Scope) {a : Expr} {q : Pos} : mE M e sc (.Starred a q) = false := by
  cases e <;> simp [mE]
theorem no_slice (M : Mx) (e : E) (sc : Scope) {a b c : Option Expr} {q : Pos} : mE M e sc (.Slice a b c q) = false := by
  cases e <;> simp [mE]
theorem not_star {M : Mx} {e : E} {sc : Scope} {p : Expr} (h : mE M e sc p = true) : ∀ a q, p ≠ .Starred a q := by
  rintro a q rfl
  rw [no_star] at h; cases h
theorem plainIx {M : Mx} {e : E} {sc : Scope} {p : Expr} (h : mE M e sc p = true) : PlainIx p := by
  intro o i
  cases p <;> first | rfl | (rw [no_slice] at h; cases h)
theorem back_any {pos : Pos} {env : Env} : ∀ {es : List Expr}, (∀ p ∈ es, ∀ a q, p ≠ .Starred a q) → (backTo pos (starEach es env)).any (·.1) = false
  | [], _ => rfl
  | p :: ps, h => by
    rw [star_ok (h p List.mem_cons_self)]
    have ih := back_any (pos := pos) (env := env) (es := ps) fun q hq => h q (List.mem_cons_of_mem _ hq)
    show (false || (backTo pos (starEach ps env)).any (·.1)) = false
    rw [ih]; rfl
theorem mA_len (M : Mx) (sc : Scope) : ∀ {e : E} {ps : List Expr}, mA M e sc ps = true → lnE e = ps.length ∧ ∀ p ∈ ps, ∀ a q, p ≠ .Starred a q := by
  intro e
  induction e with
  | nil =>
    intro ps h
    cases ps with
    | nil => exact ⟨rfl, fun _ h => by cases h⟩
    | cons => simp [mA] at h
  | cons e es _ ih =>
    intro ps h
    cases ps with
    | nil => simp [mA] at h
    | cons p ps =>
      simp only [mA, Bool.and_eq_true] at h
      obtain ⟨h1, h2⟩ := ih h.2
      exact ⟨congrArg (· + 1) h1, fun q hq => by
        rcases List.mem_cons.mp hq with rfl | hq
        · exact not_star h.1
        · exact h2 q hq⟩
  | _ => intro ps h; simp [mA] at h

structure Snd (G : Gx) (gi : Str → Option Int) (e : E) : Prop where
  ex : ∀ X W py, Cok G gi X W → mE (mxOf G gi X) e X.env.scope py = true → PE X py (tE G X W e)
  ar : ∀ X W ps, Cok G gi X W → mA (mxOf G gi X) e X.env.scope ps = true → PA X ps (tA G X W e) ∧ PA X ps (tPs G X W e)
  av : ∀ X W ps pos, Cok G gi X W → mA (mxOf G gi X) e X.env.scope ps = true → ps ≠ [] → PE X (.BoolOp .And ps pos) (tW G X W (wAnd G e)) ∧ PE X (.BoolOp .Or ps pos) (tW G X W (wOr G e))
  ts : ∀ X W py, Cok G gi X W → mT (mxOf G gi X) e X.env.scope py = true → PT X py (tT G X W (wT G e))
  tl : ∀ X W ps pos, Cok G gi X W → mTs (mxOf G gi X) e X.env.scope ps = true → ps ≠ [] → PW X (.BoolOp .And ps pos) (tT G X W (wTA G e)) ∧ PW X (.BoolOp .Or ps pos) (tT G X W (wTO G e))
  it : ∀ X W py tg, Cok G gi X W → mI (mxOf G gi X) e X.env.scope py = true → itTg e tg = true → PI X tg py (tI G X W e)
  cs : ∀ X ps, Cok G gi X W0 → mC (mxOf G gi X) e X.env.scope ps = true → PTs X ps (tC' G X e)
  ct : ∀ X W a ops es pos, Cok G gi X W → mE (mxOf G gi X) e X.env.scope (.Compare a ops es pos) = true → PT X (.Compare a ops es pos) (tT G X W (wT G (.tst e)))
  po : ∀ X W o, Cok G gi X W → mA (mxOf G gi X) e X.env.scope o.toList = true → PO X o (tO G X W e)
theorem Snd.pk {G : Gx} {gi : Str → Option Int} {e : E} (S : Snd G gi e) {X : Cx} {W : WX} {py : Expr} (C : Cok G gi X W) (h : mE (mxOf G gi X) e X.env.scope py = true) : PE X py (tP G X W e) := by
  refine s_pk (S.ex X W py C h) fun i q => ?_
  subst q
  cases py with
  | Name x p =>
    simp only [mE, Bool.and_eq_true, decide_eq_true_eq] at h
    exact s_varP h.1 h.2
  | _ => simp [mE] at h
section
variable {G : Gx} {gi : Str → Option Int}
/-- an expression alone: what is left for its other places -/
theorem Snd.of {e : E} (h : ∀ X W py, Cok G gi X W → mE (mxOf G gi X) e X.env.scope py = true → PE X py (tE G X W e)) (h1 : ∀ M sc ps, mA M e sc ps = false) (h2 : ∀ M sc py, mT M e sc py = false) (h3 : ∀ M sc ps, mTs M e sc ps = false)
    (h4 : ∀ M sc py, mI M e sc py = false) (h5 : ∀ M sc ps, mC M e sc ps = false)
    (h6 : ∀ X W a ops es pos, Cok G gi X W → mE (mxOf G gi X) e X.env.scope (.Compare a ops es pos) = true → PT X (.Compare a ops es pos) (tT G X W (wT G (.tst e))) := by intro X W a ops es pos C h; simp [mE] at h) : Snd G gi e where
  ex := h
  ar := fun X W ps C q => by rw [h1] at q; cases q
  av := fun X W ps pos C q => by rw [h1] at q; cases q
  ts := fun X W py C q => by rw [h2] at q; cases q
  tl := fun X W ps pos C q => by rw [h3] at q; cases q
  it := fun X W py tg C q _ => by rw [h4] at q; cases q
  cs := fun X ps C q => by rw [h5] at q; cases q
  ct := h6
  po := fun X W o C q => by rw [h1] at q; cases q
theorem Cok.blk {X : Cx} {W : WX} (C : Cok G gi X W) (s : Shared) (H : Hp) (sc : Scope) (ce : Env) (fp : List Addr) : Cok G gi (X.blk s H sc ce fp) W0 :=
  ⟨C.nd, C.calm, C.room, C.units, takes_none5, C.bf, C.ty, C.isi, C.rng, C.zip, C.enm, C.gi, C.fns⟩
theorem glx {X : Cx} {x : Str} (h : glC X.env.scope x = true) : Gl X x := (glC_ok h).1
/-- what of a comprehension holds at its block -/
theorem lc_parts {is : List Nat} {tp : Bool} {it c elt : E} (Si : Snd G gi it) (Sc : Snd G gi c) (Se : Snd G gi elt) {X : Cx} {W : WX} (C : Cok G gi X W) {tg pit pelt : Expr} {ifs : List Expr} {scope : Scope}
    (h1 : mTgt X.N scope is tp tg = true) (h2 : blkC X.N X.env.scope scope (ownOf is (tgNames tp tg)) = true) (h3 : (mI (mxOf G gi X) it X.env.scope pit && itTg it tg) = true) (h4 : mC (mxOf G gi X) c (relS scope X.env.scope) ifs = true) (h5 : mE (mxOf G gi X) elt (relS scope X.env.scope) pelt = true) :
    PI X tg pit (tI G X W it) ∧ BlkOk X.N X.env.scope scope (ownOf is (tgNames tp tg)) ∧ (ownOf is (tgNames tp tg)).map (·.2) = is ∧
    (∀ (s : Shared) (H : Hp) (C : Addr) (cl : List (Str × Addr)) (fp : List Addr), PG (X.blk s H scope (compEnvC scope cl C X.env) fp) tg (gT X.K is tp)) ∧
    (∀ (s : Shared) (H : Hp) (C : Addr) (cl : List (Str × Addr)) (fp : List Addr), PTs (X.blk s H scope (compEnvC scope cl C X.env) fp) ifs (tC' G X c)) ∧
    (∀ (s : Shared) (H : Hp) (C : Addr) (cl : List (Str × Addr)) (fp : List Addr), PE (X.blk s H scope (compEnvC scope cl C X.env) fp) pelt (tE G X W0 elt)) ∧ ∀ x, foldedSetIterable pit X.env x = pure x := by
  have hmap : ∀ {is : List Nat} {es : List Expr}, mNames X.N scope is es = true → (ownOf is es).map (·.2) = is := fun {is} => by
    induction is with
    | nil => intro es h; cases es <;> rfl
    | cons i is ih =>
      intro es h
      cases es with
      | nil => simp [mNames] at h
      | cons p es =>
        cases p with
        | Name x p =>
          simp only [mNames, Bool.and_eq_true] at h
          show i :: (ownOf is es).map (·.2) = _
          rw [ih h.2]
        | _ => simp [mNames] at h
  obtain ⟨h3, h3'⟩ := Bool.and_eq_true_iff.mp h3
  refine ⟨Si.it X W pit tg C h3 h3', blkOk_by h2, ?_, fun s H Ca cl fp => ?_, fun s H Ca cl fp => Sc.cs _ ifs (C.blk s H scope (compEnvC scope cl Ca X.env) fp) h4, fun s H Ca cl fp => Se.ex _ W0 pelt (C.blk s H scope (compEnvC scope cl Ca X.env) fp) h5, fun x => ?_⟩
  · simp only [mTgt, Bool.and_eq_true] at h1
    exact hmap h1.1.2
  · refine pg_T (X := X.blk s H scope (compEnvC scope cl Ca X.env) fp) (N := X.N) (sc := scope) ⟨rfl, fun x hx => ?_⟩ C.nd C.calm h1
    have keep : ∀ k, k ≠ NameKind.free → scope.names.lookup x = some k → (relS scope X.env.scope).names.lookup x = some k := fun k hk h => lookup_relS_keep hk h
    rcases locC_ok hx with z | z
    · exact ⟨.inl (keep _ (by decide) z), .inr (keep _ (by decide) z)⟩
    · refine ⟨.inr (keep _ (by decide) z), .inl ?_⟩
      show (scope.names.lookup x == some NameKind.cell) = true
      rw [z]; rfl
  · cases it with
    | rng es =>
      cases pit with
      | Call _ _ _ _ => rfl
      | _ => simp [mI] at h3
    | seq e =>
      simp only [mI, Bool.and_eq_true] at h3
      cases pit <;> first | rfl | (simp [notSet] at h3)
    | zip es =>
      cases pit with
      | Call _ _ _ _ => rfl
      | _ => simp [mI] at h3
    | enm es =>
      cases pit with
      | Call _ _ _ _ => rfl
      | _ => simp [mI] at h3
    | sow i =>
      cases pit with
      | Name _ _ => rfl
      | _ => simp [mI] at h3
    | _ => simp [mI] at h3
theorem snd : ∀ e : E, Snd G gi e := by
  intro e
  induction e with
  | nil =>
    refine ⟨fun X W py C h => by simp [mE] at h, fun X W ps C h => ?_, fun X W ps pos C h hn => ?_, fun X W py C h => by simp [mT] at h, fun X W ps pos C h hn => ?_, fun X W py tg C h _ => by simp [mI] at h, fun X ps C h => ?_, fun X W a ops es pos C h => by simp [mE] at h, fun X W o C h => ?_⟩
    · cases ps with
      | nil => exact ⟨s_nil, s_nilP⟩
      | cons => simp [mA] at h
    · cases ps with
      | nil => exact absurd rfl hn
      | cons => simp [mA] at h
    · cases ps with
      | nil => exact absurd rfl hn
      | cons => simp [mTs] at h
    · cases ps with
      | nil =>
        refine ⟨fun pins s σ H Q I w => pts_nil.run pins s σ H Q I ?_⟩
        obtain ⟨Z, H0, io, env, Qd, Xd, hi, er, lk, ⟨_, w⟩, fin⟩ := w
        unfold wC at w
        exact fin true env H er .refl w
      | cons => simp [mC] at h
    · cases o with
      | none => exact s_onone
      | some p => simp [mA] at h
  | cons e es ihe ihs =>
    refine ⟨fun X W py C h => by simp [mE] at h, fun X W ps C h => ?_, fun X W ps pos C h hn => ?_, fun X W py C h => by simp [mT] at h, fun X W ps pos C h hn => ?_, fun X W py tg C h _ => by simp [mI] at h, fun X ps C h => by simp [mC] at h, fun X W a ops es pos C h => by simp [mE] at h, fun X W o C h => ?_⟩
    · cases ps with
      | nil => simp [mA] at h
      | cons p ps =>
        simp only [mA, Bool.and_eq_true] at h
        obtain ⟨a1, a2⟩ := ihs.ar X W ps C h.2
        exact ⟨s_cons (ihe.ex X W p C h.1) a1 (not_star h.1), s_consP (ihe.pk C h.1) a2 (not_star h.1)⟩
    · cases ps with
      | nil => exact absurd rfl hn
      | cons p ps =>
        simp only [mA, Bool.and_eq_true] at h
        have h1 := ihe.ex X W p C h.1
        cases ps with
        | nil =>
          cases es with
          | nil => exact ⟨s_and1 h1, s_or1 h1⟩
          | _ => simp [mA] at h
        | cons q ps =>
          obtain ⟨b1, b2⟩ := ihs.av X W (q :: ps) pos C h.2 (by simp)
          cases es with
          | cons e2 es => exact ⟨s_and2 h1 b1, s_or2 h1 b2⟩
          | _ => simp [mA] at h
    · cases ps with
      | nil => exact absurd rfl hn
      | cons p ps =>
        simp only [mTs, Bool.and_eq_true] at h
        have h1 := ihe.ts X W p C h.1
        cases ps with
        | nil =>
          cases es with
          | nil => exact ⟨s_ta1 h1, s_to1 h1⟩
          | _ => simp [mTs] at h
        | cons q ps =>
          obtain ⟨b1, b2⟩ := ihs.tl X W (q :: ps) pos C h.2 (by simp)
          cases es with
          | cons e2 es => exact ⟨s_ta2 h1 b1, s_to2 h1 b2⟩
          | _ => simp [mTs] at h
    · cases o with
      | none => simp [mA] at h
      | some p =>
        simp only [mA, Option.toList, Bool.and_eq_true] at h
        cases es with
        | nil => exact s_osome (ihe.ex X W p C h.1)
        | _ => simp [mA] at h
  | var i =>
    refine .of (fun X W py C h => ?_) (fun _ _ _ => by simp [mA]) (fun _ _ _ => by simp [mT]) (fun _ _ _ => by simp [mTs]) (fun _ _ _ => by simp [mI]) (fun _ _ _ => by simp [mC])
    cases py with
    | Name x p =>
      simp only [mE, Bool.and_eq_true, decide_eq_true_eq] at h
      exact s_var h.1 h.2
    | _ => simp [mE] at h
  | int i =>
    refine .of (fun X W py C h => ?_) (fun _ _ _ => by simp [mA]) (fun _ _ _ => by simp [mT]) (fun _ _ _ => by simp [mTs]) (fun _ _ _ => by simp [mI]) (fun _ _ _ => by simp [mC])
    cases py with
    | Constant c k p =>
      cases c with
      | int j =>
        simp only [mE, decide_eq_true_eq] at h
        subst h
        exact s_const pe_int (fun _ _ _ => by unfold wE; rfl) (fun _ => .int i) rfl
      | _ => simp [mE] at h
    | _ => simp [mE] at h
  | bl b =>
    refine .of (fun X W py C h => ?_) (fun _ _ _ => by simp [mA]) (fun _ _ _ => by simp [mT]) (fun _ _ _ => by simp [mTs]) (fun _ _ _ => by simp [mI]) (fun _ _ _ => by simp [mC])
    cases py with
    | Constant c k p =>
      cases c with
      | bool j =>
        simp only [mE, beq_iff_eq] at h
        subst h
        exact s_const pe_bl (fun _ _ _ => by unfold wE; rfl) (fun _ => .bl b) rfl
      | _ => simp [mE] at h
    | _ => simp [mE] at h
  | non =>
    refine .of (fun X W py C h => ?_) (fun _ _ _ => by simp [mA]) (fun _ _ _ => by simp [mT]) (fun _ _ _ => by simp [mTs]) (fun _ _ _ => by simp [mI]) (fun _ _ _ => by simp [mC])
    cases py with
    | Constant c k p =>
      cases c with
      | none => exact s_const pe_non (fun _ _ _ => by unfold wE; rfl) (fun _ => .non) rfl
      | _ => simp [mE] at h
    | _ => simp [mE] at h
  | str b =>
    refine .of (fun X W py C h => ?_) (fun _ _ _ => by simp [mA]) (fun _ _ _ => by simp [mT]) (fun _ _ _ => by simp [mTs]) (fun _ _ _ => by simp [mI]) (fun _ _ _ => by simp [mC])
    cases py with
    | Constant c k p =>
      cases c with
      | str j =>
        simp only [mE, decide_eq_true_eq] at h
        subst h
        exact s_const pe_str (fun _ _ _ => by unfold wE; rfl) (fun _ => .str b) rfl
      | _ => simp [mE] at h
    | _ => simp [mE] at h
  | fnv n =>
    refine .of (fun X W py C h => ?_) (fun _ _ _ => by simp [mA]) (fun _ _ _ => by simp [mT]) (fun _ _ _ => by simp [mTs]) (fun _ _ _ => by simp [mI]) (fun _ _ _ => by simp [mC])
    cases py with
    | Name x p =>
      simp only [mE, Bool.and_eq_true, decide_eq_true_eq] at h
      obtain ⟨⟨h1, h2⟩, h3⟩ := h
      subst h1
      obtain ⟨f, fd, ps, g1, _, _, _⟩ := C.fns n h3
      exact s_const (x := .ref f) (pe_glob (glx h2) g1 rfl (glC_ok h2).2) (fun _ _ _ => by unfold wE; rfl) (fun _ => .fn n g1) rfl
    | _ => simp [mE] at h
  | gint x i =>
    refine .of (fun X W py C h => ?_) (fun _ _ _ => by simp [mA]) (fun _ _ _ => by simp [mT]) (fun _ _ _ => by simp [mTs]) (fun _ _ _ => by simp [mI]) (fun _ _ _ => by simp [mC])
    cases py with
    | Name y p =>
      simp only [mE, Bool.and_eq_true, decide_eq_true_eq] at h
      obtain ⟨⟨h1, h2⟩, h3⟩ := h
      subst h1
      obtain ⟨t, ht⟩ := C.gi x i h3
      exact s_const (x := .int i) (pe_glob (glx h2) ht ⟨t, rfl⟩ (glC_ok h2).2) (fun _ _ _ => by unfold wE; rfl) (fun _ => .int i) rfl
    | _ => simp [mE] at h
  | bin o a b iha ihb =>
    refine .of (fun X W py C h => ?_) (fun _ _ _ => by simp [mA]) (fun _ _ _ => by simp [mT]) (fun _ _ _ => by simp [mTs]) (fun _ _ _ => by simp [mI]) (fun _ _ _ => by simp [mC])
    cases py with
    | BinOp pa op pb p =>
      simp only [mE, Bool.and_eq_true] at h
      obtain ⟨⟨h1, h2⟩, h3⟩ := h
      rw [opB_ok h1]
      exact s_bin (iha.pk C h2) (ihb.pk C h3)
    | _ => simp [mE] at h
  | neg a iha =>
    refine .of (fun X W py C h => ?_) (fun _ _ _ => by simp [mA]) (fun _ _ _ => by simp [mT]) (fun _ _ _ => by simp [mTs]) (fun _ _ _ => by simp [mI]) (fun _ _ _ => by simp [mC])
    cases py with
    | UnaryOp op pa p =>
      cases op with
      | USub =>
        simp only [mE] at h
        exact s_neg (iha.ex X W pa C h)
      | _ => simp [mE] at h
    | _ => simp [mE] at h
  | not a iha =>
    refine ⟨fun X W py C h => ?_, fun X W ps C h => by simp [mA] at h, fun X W ps pos C h => by simp [mA] at h, fun X W py C h => ?_, fun X W ps pos C h => by simp [mTs] at h, fun X W py tg C h _ => by simp [mI] at h, fun X ps C h => by simp [mC] at h, fun X W a ops es pos C h => by simp [mE] at h, fun X W o C h => by simp [mA] at h⟩
    · cases py with
      | UnaryOp op pa p =>
        cases op with
        | Not =>
          simp only [mE] at h
          exact s_not (iha.ex X W pa C h)
        | _ => simp [mE] at h
      | _ => simp [mE] at h
    · cases py with
      | UnaryOp op pa p =>
        cases op with
        | Not =>
          simp only [mT] at h
          exact s_tnot (iha.ts X W pa C h)
        | _ => simp [mT] at h
      | _ => simp [mT] at h
  | cmp o a b iha ihb =>
    refine .of (fun X W py C h => ?_) (fun _ _ _ => by simp [mA]) (fun _ _ _ => by simp [mT]) (fun _ _ _ => by simp [mTs]) (fun _ _ _ => by simp [mI]) (fun _ _ _ => by simp [mC]) (fun X W pa ops pes p C h => ?_)
    · cases py with
      | Compare pa ops pes p =>
        match ops, pes, h with
        | [op], [pb], h =>
          simp only [mE, Bool.and_eq_true] at h
          obtain ⟨⟨⟨h1, h2⟩, h3⟩, h4⟩ := h
          rw [opC_ok h1]
          exact s_cmp C.units h4 (iha.pk C h2) (ihb.pk C h3)
        | [], _, h => simp [mE] at h
        | _ :: _ :: _, _, h => simp [mE] at h
        | [_], [], h => simp [mE] at h
        | [_], _ :: _ :: _, h => simp [mE] at h
      | _ => simp [mE] at h
    · match ops, pes, h with
      | [op], [pb], h =>
        simp only [mE, Bool.and_eq_true] at h
        obtain ⟨⟨⟨h1, h2⟩, h3⟩, h4⟩ := h
        rw [opC_ok h1]
        exact s_cmpT C.units h4 (iha.pk C h2) (ihb.pk C h3)
      | [], _, h => simp [mE] at h
      | _ :: _ :: _, _, h => simp [mE] at h
      | [_], [], h => simp [mE] at h
      | [_], _ :: _ :: _, h => simp [mE] at h
  | chn o o' a b c iha ihb ihc =>
    refine .of (fun X W py C h => ?_) (fun _ _ _ => by simp [mA]) (fun _ _ _ => by simp [mT]) (fun _ _ _ => by simp [mTs]) (fun _ _ _ => by simp [mI]) (fun _ _ _ => by simp [mC]) (fun X W pa ops pes p C h => ?_)
    · cases py with
      | Compare pa ops pes p =>
        match ops, pes, h with
        | [op, op'], [pb, pc], h =>
          simp only [mE, Bool.and_eq_true] at h
          obtain ⟨⟨⟨⟨⟨⟨h1, h2⟩, h3⟩, h4⟩, h5⟩, h6⟩, h7⟩ := h
          rw [opC_ok h1, opC_ok h2]
          exact s_chn C.units (iha.ex X W pa C h3) (ihb.ex X W pb C h4) (ihc.ex X W pc C h5) h6 h7 (pe_chain (op_cmpD o C.units) (op_cmpD o' C.units) (iha.ex X W pa C h3) (ihb.ex X W pb C h4) (ihc.ex X W pc C h5) (notSet_mark h7 _))
        | [], _, h => simp [mE] at h
        | [_], _, h => simp [mE] at h
        | _ :: _ :: _ :: _, _, h => simp [mE] at h
        | [_, _], [], h => simp [mE] at h
        | [_, _], [_], h => simp [mE] at h
        | [_, _], _ :: _ :: _ :: _, h => simp [mE] at h
      | _ => simp [mE] at h
    · match ops, pes, h with
      | [op, op'], [pb, pc], h =>
        simp only [mE, Bool.and_eq_true] at h
        obtain ⟨⟨⟨⟨⟨⟨h1, h2⟩, h3⟩, h4⟩, h5⟩, h6⟩, h7⟩ := h
        rw [opC_ok h1, opC_ok h2]
        refine (pt_chain (op_cmpD o C.units) (op_cmpD o' C.units) (iha.ex X W pa C h3) (ihb.ex X W pb C h4) (ihc.ex X W pc C h5) (notSet_mark h7 _)).imp fun σ H Q w => ?_
        obtain ⟨Z, H0, io, env, Qd, Xd, hi, er, lk, w, fin⟩ := w
        unfold wT pk at w
        dsimp only at w
        unfold wE at w
        exact chn_red C.units ⟨Z, H0, io, env, _, Xd, hi, er, lk, w, fun b env2 H2 er2 m k => ⟨b, rfl, fin b env2 H2 er2 m k⟩⟩
      | [], _, h => simp [mE] at h
      | [_], _, h => simp [mE] at h
      | _ :: _ :: _ :: _, _, h => simp [mE] at h
      | [_, _], [], h => simp [mE] at h
      | [_, _], [_], h => simp [mE] at h
      | [_, _], _ :: _ :: _ :: _, h => simp [mE] at h
  | isn a iha =>
    refine .of (fun X W py C h => ?_) (fun _ _ _ => by simp [mA]) (fun _ _ _ => by simp [mT]) (fun _ _ _ => by simp [mTs]) (fun _ _ _ => by simp [mI]) (fun _ _ _ => by simp [mC]) (fun X W pa ops pes p C h => ?_)
    · cases py with
      | Compare pa ops pes p =>
        match ops, pes, h with
        | [.Is], [.Constant .none _ _], h =>
          simp only [mE] at h
          exact s_isn (iha.ex X W pa C h)
        | [], _, h => simp [mE] at h
        | _ :: _ :: _, _, h => simp [mE] at h
        | [o], [], h => cases o <;> simp [mE] at h
        | [o], _ :: _ :: _, h => cases o <;> simp [mE] at h
        | [o], [q], h =>
          unfold mE at h
          split at h
          · rename_i e1
            cases e1
            exact s_isn (iha.ex X W _ C h)
          · cases h
      | _ => simp [mE] at h
    · unfold mE at h
      split at h
      · rename_i e1
        cases e1
        exact s_isnT (iha.ex X W _ C h)
      · cases h
  | ntn a iha =>
    refine .of (fun X W py C h => ?_) (fun _ _ _ => by simp [mA]) (fun _ _ _ => by simp [mT]) (fun _ _ _ => by simp [mTs]) (fun _ _ _ => by simp [mI]) (fun _ _ _ => by simp [mC]) (fun X W pa ops pes p C h => ?_)
    · cases py with
      | Compare pa ops pes p =>
        unfold mE at h
        split at h
        · rename_i e1
          cases e1
          exact s_ntn (iha.ex X W _ C h)
        · cases h
      | _ => simp [mE] at h
    · unfold mE at h
      split at h
      · rename_i e1
        cases e1
        exact s_ntnT (iha.ex X W _ C h)
      · cases h
  | and es ihs =>
    refine ⟨fun X W py C h => ?_, fun X W ps C h => by simp [mA] at h, fun X W ps pos C h => by simp [mA] at h, fun X W py C h => ?_, fun X W ps pos C h => by simp [mTs] at h, fun X W py tg C h _ => by simp [mI] at h, fun X ps C h => by simp [mC] at h, fun X W a ops es pos C h => by simp [mE] at h, fun X W o C h => by simp [mA] at h⟩
    · cases py with
      | BoolOp op ps p =>
        cases op with
        | And =>
          simp only [mE, Bool.and_eq_true, Bool.not_eq_true'] at h
          exact s_ofW (ihs.av X W ps p C h.1 (by rintro rfl; simp at h)).1 (fun _ _ _ => by unfold wE; rfl) rfl
        | _ => simp [mE] at h
      | _ => simp [mE] at h
    · cases py with
      | BoolOp op ps p =>
        cases op with
        | And =>
          simp only [mT, Bool.and_eq_true, Bool.not_eq_true'] at h
          refine ((ihs.tl X W ps p C h.1 (by rintro rfl; simp at h)).1).pt.imp fun σ H Q w => ?_
          obtain ⟨Z, H0, io, env, Qd, Xd, hi, er, lk, w, fin⟩ := w
          unfold wT at w
          exact ⟨Z, H0, io, env, Qd, Xd, hi, er, lk, w, fin⟩
        | _ => simp [mT] at h
      | _ => simp [mT] at h
  | or es ihs =>
    refine ⟨fun X W py C h => ?_, fun X W ps C h => by simp [mA] at h, fun X W ps pos C h => by simp [mA] at h, fun X W py C h => ?_, fun X W ps pos C h => by simp [mTs] at h, fun X W py tg C h _ => by simp [mI] at h, fun X ps C h => by simp [mC] at h, fun X W a ops es pos C h => by simp [mE] at h, fun X W o C h => by simp [mA] at h⟩
    · cases py with
      | BoolOp op ps p =>
        cases op with
        | Or =>
          simp only [mE, Bool.and_eq_true, Bool.not_eq_true'] at h
          exact s_ofW (ihs.av X W ps p C h.1 (by rintro rfl; simp at h)).2 (fun _ _ _ => by unfold wE; rfl) rfl
        | _ => simp [mE] at h
      | _ => simp [mE] at h
    · cases py with
      | BoolOp op ps p =>
        cases op with
        | Or =>
          simp only [mT, Bool.and_eq_true, Bool.not_eq_true'] at h
          refine ((ihs.tl X W ps p C h.1 (by rintro rfl; simp at h)).2).pt.imp fun σ H Q w => ?_
          obtain ⟨Z, H0, io, env, Qd, Xd, hi, er, lk, w, fin⟩ := w
          unfold wT at w
          exact ⟨Z, H0, io, env, Qd, Xd, hi, er, lk, w, fin⟩
        | _ => simp [mT] at h
      | _ => simp [mT] at h
  | ite c a b ihc iha ihb =>
    refine .of (fun X W py C h => ?_) (fun _ _ _ => by simp [mA]) (fun _ _ _ => by simp [mT]) (fun _ _ _ => by simp [mTs]) (fun _ _ _ => by simp [mI]) (fun _ _ _ => by simp [mC])
    cases py with
    | IfExp pc pa pb p =>
      simp only [mE, Bool.and_eq_true] at h
      obtain ⟨⟨h1, h2⟩, h3⟩ := h
      exact s_ite (ihc.ts X W pc C h1) (iha.ex X W pa C h2) (ihb.ex X W pb C h3)
    | _ => simp [mE] at h
  | tst e ihe =>
    have tt : ∀ X W py, Cok G gi X W → tstOk py = true → mE (mxOf G gi X) e X.env.scope py = true → PT X py (tT G X W (wT G (.tst e))) := fun X W py C h1 h2 => by
      by_cases hc : ∃ a ops es pos, py = .Compare a ops es pos
      · obtain ⟨pa, ops, pes, pos, rfl⟩ := hc
        exact ihe.ct X W pa ops pes pos C h2
      · exact s_tst (ihe.pk C h2) h1 fun a ops es pos q => hc ⟨a, ops, es, pos, q⟩
    refine ⟨fun X W py C h => by simp [mE] at h, fun X W ps C h => by simp [mA] at h, fun X W ps pos C h => by simp [mA] at h, fun X W py C h => ?_, fun X W ps pos C h => by simp [mTs] at h, fun X W py tg C h _ => by simp [mI] at h, fun X ps C h => ?_, fun X W a ops es pos C h => by simp [mE] at h, fun X W o C h => by simp [mA] at h⟩
    · simp only [mT, Bool.and_eq_true] at h
      exact tt X W py C h.1 h.2
    · match ps, h with
      | [p], h =>
        simp only [mC, Bool.and_eq_true] at h
        refine pts_one ((tt X W0 p C h.1 h.2).imp fun σ H Q w => ?_)
        obtain ⟨Z, H0, io, env, Qd, Xd, hi, er, lk, ⟨hx, w⟩, fin⟩ := w
        unfold wC at w
        refine ⟨Z, H0, io, env, Qd, (fun _ _ => False), hi, er, (fun _ _ _ _ _ _ _ _ h => h.elim), ?_, fin⟩
        unfold wT
        exact w
      | [], h => simp [mC] at h
      | _ :: _ :: _, h => simp [mC] at h
  | tup es ihs =>
    refine .of (fun X W py C h => ?_) (fun _ _ _ => by simp [mA]) (fun _ _ _ => by simp [mT]) (fun _ _ _ => by simp [mTs]) (fun _ _ _ => by simp [mI]) (fun _ _ _ => by simp [mC])
    cases py with
    | Tuple ps k p =>
      simp only [mE, Bool.and_eq_true, decide_eq_true_eq] at h
      exact s_tup (ihs.ar X W ps C h.1).1 (by rw [(mA_len _ _ h.1).1]; exact h.2)
    | _ => simp [mE] at h
  | lst es ihs =>
    refine .of (fun X W py C h => ?_) (fun _ _ _ => by simp [mA]) (fun _ _ _ => by simp [mT]) (fun _ _ _ => by simp [mTs]) (fun _ _ _ => by simp [mI]) (fun _ _ _ => by simp [mC])
    cases py with
    | List ps p =>
      simp only [mE, Bool.and_eq_true, decide_eq_true_eq] at h
      exact s_lst (ihs.ar X W ps C h.1).1 (by rw [(mA_len _ _ h.1).1]; exact h.2)
    | _ => simp [mE] at h
  | call n es ihs =>
    refine .of (fun X W py C h => ?_) (fun _ _ _ => by simp [mA]) (fun _ _ _ => by simp [mT]) (fun _ _ _ => by simp [mTs]) (fun _ _ _ => by simp [mI]) (fun _ _ _ => by simp [mC])
    cases py with
    | Call pf ps kws p =>
      unfold mE at h
      split at h
      · rename_i e1
        cases e1
        simp only [Bool.and_eq_true, decide_eq_true_eq, Bool.not_eq_true'] at h
        obtain ⟨⟨⟨⟨h1, h2⟩, h3⟩, h4⟩, h5⟩ := h
        obtain ⟨f, fd, qs, g1, g2, F, hb⟩ := C.fns n h4
        have h1 : G.tb.fnm n = _ := h1
        subst h1
        have hln := mA_len _ _ h3
        cases ps with
        | nil =>
          cases es with
          | nil => exact s_call0 F h5 (C.room _ h4) (glx h2) g1 g2 hb C.tk (glC_ok h2).2
          | _ => simp [mA] at h3
        | cons p0 ps => exact s_call F h5 (C.room _ h4) (glx h2) g1 g2 hb C.tk (ihs.ar X W _ C h3).1 (glC_ok h2).2 (hln.2 p0 List.mem_cons_self) (back_any fun q hq => hln.2 q (List.mem_cons_of_mem _ hq))
      · cases h
    | _ => simp [mE] at h
  | cio n i es ihs =>
    refine .of (fun X W py C h => ?_) (fun _ _ _ => by simp [mA]) (fun _ _ _ => by simp [mT]) (fun _ _ _ => by simp [mTs]) (fun _ _ _ => by simp [mI]) (fun _ _ _ => by simp [mC])
    cases py with
    | Call pf ps kws p =>
      unfold mE at h
      split at h
      · rename_i e1
        cases e1
        simp only [Bool.and_eq_true, decide_eq_true_eq, Bool.not_eq_true'] at h
        obtain ⟨⟨⟨⟨⟨⟨⟨h1, h2⟩, h3⟩, h4⟩, h5⟩, h6⟩, h7⟩, h8⟩ := h
        obtain ⟨f, fd, qs, g1, g2, F, hb⟩ := C.fns n h6
        have h1 : G.tb.fnm n = _ := h1
        subst h1
        have hln := mA_len _ _ h5
        exact s_cio F h7 (C.room _ h6) (glx h2) g1 g2 hb C.tk h3 h4 (ihs.ar X W _ C h5).1 (glC_ok h2).2 (back_any hln.2) h8
      · cases h
    | _ => simp [mE] at h
  | clv i es ihs =>
    refine .of (fun X W py C h => ?_) (fun _ _ _ => by simp [mA]) (fun _ _ _ => by simp [mT]) (fun _ _ _ => by simp [mTs]) (fun _ _ _ => by simp [mI]) (fun _ _ _ => by simp [mC])
    cases py with
    | Call pf ps kws p =>
      unfold mE at h
      split at h
      · rename_i e1
        cases e1
        simp only [Bool.and_eq_true, decide_eq_true_eq, Bool.not_eq_true'] at h
        obtain ⟨⟨⟨h1, h2⟩, h3⟩, h4⟩ := h
        have hln := mA_len _ _ h3
        cases ps with
        | nil => simp at h4
        | cons p0 ps => exact s_clv C h1 h2 (ihs.ar X W _ C h3).1 (hln.2 p0 List.mem_cons_self) (back_any fun q hq => hln.2 q (List.mem_cons_of_mem _ hq))
      · cases h
    | _ => simp [mE] at h
  | blt f es ihs =>
    refine .of (fun X W py C h => ?_) (fun _ _ _ => by simp [mA]) (fun _ _ _ => by simp [mT]) (fun _ _ _ => by simp [mTs]) (fun _ _ _ => by simp [mI]) (fun _ _ _ => by simp [mC])
    cases py with
    | Call pf ps kws p =>
      unfold mE at h
      split at h
      · rename_i e1
        cases e1
        simp only [Bool.and_eq_true, decide_eq_true_eq, Bool.not_eq_true'] at h
        obtain ⟨⟨⟨h1, h2⟩, h3⟩, h4⟩ := h
        subst h1
        have hln := mA_len _ _ h3
        cases ps with
        | nil => simp at h4
        | cons p0 ps =>
          have hst := hln.2 p0 List.mem_cons_self
          have hba : (backTo p (starEach ps X.env)).any (·.1) = false := back_any fun q hq => hln.2 q (List.mem_cons_of_mem _ hq)
          refine s_blt C.calm (glx h2) (C.bf f) (ihs.ar X W _ C h3).2 hst hba fun {r t} hr ha => ?_
          have hbt := bf_boot f
          have hne := bf_ne f
          cases f with
          | int => exact pe_callTy hr (glx h2) (C.bf _) hbt ha hne.1 hne.2 (star_ok hst _ _) hba
          | str => exact pe_callTy hr (glx h2) (C.bf _) hbt ha hne.1 hne.2 (star_ok hst _ _) hba
          | tuple => exact pe_callTy hr (glx h2) (C.bf _) hbt ha hne.1 hne.2 (star_ok hst _ _) hba
          | list => exact pe_callTy hr (glx h2) (C.bf _) hbt ha hne.1 hne.2 (star_ok hst _ _) hba
          | bool => exact pe_callTy hr (glx h2) (C.bf _) hbt ha hne.1 hne.2 (star_ok hst _ _) hba
          | _ => exact pe_callB hr (glx h2) (C.bf _) hbt ha hne.1 hne.2 (star_ok hst _ _) hba
      · cases h
    | _ => simp [mE] at h
  | isi a T iha =>
    refine .of (fun X W py C h => ?_) (fun _ _ _ => by simp [mA]) (fun _ _ _ => by simp [mT]) (fun _ _ _ => by simp [mTs]) (fun _ _ _ => by simp [mI]) (fun _ _ _ => by simp [mC])
    cases py with
    | Call pf ps kws p =>
      unfold mE at h
      split at h
      · rename_i e1
        cases e1
        simp only [Bool.and_eq_true, decide_eq_true_eq] at h
        obtain ⟨⟨⟨⟨h1, h2⟩, h3⟩, h4⟩, h5⟩ := h
        subst h1 h4
        exact s_isi (glx h2) C.isi (glx h5) (C.ty T) (iha.pk C h3) (not_star h3)
      · cases h
    | _ => simp [mE] at h
  | ix a b iha ihb =>
    refine .of (fun X W py C h => ?_) (fun _ _ _ => by simp [mA]) (fun _ _ _ => by simp [mT]) (fun _ _ _ => by simp [mTs]) (fun _ _ _ => by simp [mI]) (fun _ _ _ => by simp [mC])
    cases py with
    | Subscript pa pb p =>
      simp only [mE, Bool.and_eq_true] at h
      exact s_ix (iha.pk C h.1) (ihb.ex X W pb C h.2) (plainIx h.2)
    | _ => simp [mE] at h
  | slc a lo hi iha ihl ihh =>
    refine .of (fun X W py C h => ?_) (fun _ _ _ => by simp [mA]) (fun _ _ _ => by simp [mT]) (fun _ _ _ => by simp [mTs]) (fun _ _ _ => by simp [mI]) (fun _ _ _ => by simp [mC])
    cases py with
    | Subscript pa pb p =>
      unfold mE at h
      split at h
      · rename_i e1
        cases e1
        simp only [Bool.and_eq_true] at h
        obtain ⟨⟨h1, h2⟩, h3⟩ := h
        exact s_slc (iha.pk C h1) (ihl.po X W _ C h2) (ihh.po X W _ C h3)
      · cases h
    | _ => simp [mE] at h
  | rev a iha =>
    refine .of (fun X W py C h => ?_) (fun _ _ _ => by simp [mA]) (fun _ _ _ => by simp [mT]) (fun _ _ _ => by simp [mTs]) (fun _ _ _ => by simp [mI]) (fun _ _ _ => by simp [mC])
    cases py with
    | Subscript pa pb p =>
      unfold mE at h
      split at h
      · rename_i e1
        cases e1
        exact s_rev (iha.pk C h)
      · cases h
    | _ => simp [mE] at h
  | rng es ihs =>
    refine ⟨fun X W py C h => by simp [mE] at h, fun X W ps C h => by simp [mA] at h, fun X W ps pos C h => by simp [mA] at h, fun X W py C h => by simp [mT] at h, fun X W ps pos C h => by simp [mTs] at h, fun X W py tg C h htg => ?_, fun X ps C h => by simp [mC] at h, fun X W a ops es pos C h => by simp [mE] at h, fun X W o C h => by simp [mA] at h⟩
    cases py with
    | Call pf ps kws p =>
      unfold mI at h
      split at h
      · rename_i e1
        cases e1
        simp only [Bool.and_eq_true, decide_eq_true_eq] at h
        obtain ⟨⟨⟨h1, h2⟩, h3⟩, h4⟩ := h
        subst h1
        have hln := mA_len _ _ h3
        have har := (ihs.ar X W _ C h3).1
        match ps, h4, hln, har with
        | [pa], _, hln, har => exact s_rng1 (glx h2) C.rng har hln.1 (hln.2 _ List.mem_cons_self)
        | [pa, pb], _, hln, har => exact s_rng2 (glx h2) C.rng har hln.1 (hln.2 _ List.mem_cons_self) (hln.2 _ (List.mem_cons_of_mem _ List.mem_cons_self))
        | [], h4, _, _ => simp at h4
        | _ :: _ :: _ :: _, h4, _, _ => simp at h4
      · cases h
    | _ => simp [mI] at h
  | lrng es ihs =>
    refine .of (fun X W py C h => ?_) (fun _ _ _ => by simp [mA]) (fun _ _ _ => by simp [mT]) (fun _ _ _ => by simp [mTs]) (fun _ _ _ => by simp [mI]) (fun _ _ _ => by simp [mC])
    cases py with
    | Call pf ps kws p =>
      unfold mE at h
      split at h
      · rename_i e1
        cases e1
        simp only [Bool.and_eq_true, decide_eq_true_eq] at h
        obtain ⟨⟨⟨⟨⟨h1, h2⟩, h3⟩, h4⟩, h5⟩, h6⟩ := h
        subst h1 h3
        rename_i pes _
        have hln := mA_len _ _ h5
        cases pes with
        | nil => simp at h6
        | cons p0 ps => exact s_lrng C.calm (glx h2) (C.bf .list) (glx h4) C.rng (ihs.ar X W _ C h5).1 (hln.2 p0 List.mem_cons_self) (back_any fun q hq => hln.2 q (List.mem_cons_of_mem _ hq))
      · cases h
    | _ => simp [mE] at h
  | seq e ihe =>
    refine ⟨fun X W py C h => by simp [mE] at h, fun X W ps C h => by simp [mA] at h, fun X W ps pos C h => by simp [mA] at h, fun X W py C h => by simp [mT] at h, fun X W ps pos C h => by simp [mTs] at h, fun X W py tg C h htg => ?_, fun X ps C h => by simp [mC] at h, fun X W a ops es pos C h => by simp [mE] at h, fun X W o C h => by simp [mA] at h⟩
    simp only [mI, Bool.and_eq_true] at h
    exact s_seq (ihe.ex X W py C h.2)
  | zip es ihs =>
    refine ⟨fun X W py C h => by simp [mE] at h, fun X W ps C h => by simp [mA] at h, fun X W ps pos C h => by simp [mA] at h, fun X W py C h => by simp [mT] at h, fun X W ps pos C h => by simp [mTs] at h, fun X W py tg C h htg => ?_, fun X ps C h => by simp [mC] at h, fun X W a ops es pos C h => by simp [mE] at h, fun X W o C h => by simp [mA] at h⟩
    cases tg with
    | Tuple elts kk tpos =>
      cases py with
      | Call pf ps kws p =>
        unfold mI at h
        split at h
        · rename_i e1
          cases e1
          simp only [Bool.and_eq_true, decide_eq_true_eq] at h
          obtain ⟨⟨⟨h1, h2⟩, h3⟩, h4⟩ := h
          subst h1
          have hln := mA_len _ _ h3
          have har := (ihs.ar X W _ C h3).1
          match ps, h4, hln, har with
          | [pa, pb], _, hln, har => exact s_zip (glx h2) C.zip har (hln.2 _ List.mem_cons_self) (hln.2 _ (List.mem_cons_of_mem _ List.mem_cons_self))
          | [], h4, _, _ => simp at h4
          | [_], h4, _, _ => simp at h4
          | _ :: _ :: _ :: _, h4, _, _ => simp at h4
        · cases h
      | _ => simp [mI] at h
    | _ => simp [itTg] at htg
  | enm es ihs =>
    refine ⟨fun X W py C h => by simp [mE] at h, fun X W ps C h => by simp [mA] at h, fun X W ps pos C h => by simp [mA] at h, fun X W py C h => by simp [mT] at h, fun X W ps pos C h => by simp [mTs] at h, fun X W py tg C h htg => ?_, fun X ps C h => by simp [mC] at h, fun X W a ops es pos C h => by simp [mE] at h, fun X W o C h => by simp [mA] at h⟩
    cases tg with
    | Tuple elts kk tpos =>
      cases py with
      | Call pf ps kws p =>
        unfold mI at h
        split at h
        · rename_i e1
          cases e1
          simp only [Bool.and_eq_true, decide_eq_true_eq] at h
          obtain ⟨⟨⟨h1, h2⟩, h3⟩, h4⟩ := h
          subst h1
          have hln := mA_len _ _ h3
          have har := (ihs.ar X W _ C h3).1
          match ps, h4, hln, har with
          | [pa], _, hln, har => exact s_enm (glx h2) C.enm har (hln.2 _ List.mem_cons_self)
          | [], h4, _, _ => simp at h4
          | _ :: _ :: _, h4, _, _ => simp at h4
        · cases h
      | _ => simp [mI] at h
    | _ => simp [itTg] at htg
  | sow i =>
    refine ⟨fun X W py C h => by simp [mE] at h, fun X W ps C h => by simp [mA] at h, fun X W ps pos C h => by simp [mA] at h, fun X W py C h => by simp [mT] at h, fun X W ps pos C h => by simp [mTs] at h, fun X W py tg C h htg => ?_, fun X ps C h => by simp [mC] at h, fun X W a ops es pos C h => by simp [mE] at h, fun X W o C h => by simp [mA] at h⟩
    unfold mI at h
    split at h
    · simp only [Bool.and_eq_true, decide_eq_true_eq] at h
      exact s_sow h.1 h.2
    · cases h
  | lc is tp it c elt ihi ihc ihe =>
    refine .of (fun X W py C h => ?_) (fun _ _ _ => by simp [mA]) (fun _ _ _ => by simp [mT]) (fun _ _ _ => by simp [mTs]) (fun _ _ _ => by simp [mI]) (fun _ _ _ => by simp [mC])
    cases py with
    | ListComp pelt gens scope p =>
      unfold mE at h
      split at h
      · rename_i e1
        cases e1
        simp only [Bool.and_eq_true] at h
        obtain ⟨⟨⟨⟨h1, h2⟩, h3⟩, h4⟩, h5⟩ := h
        obtain ⟨k1, k2, k3, k4, k5, k6, k7⟩ := lc_parts ihi ihc ihe C h1 h2 (Bool.and_eq_true_iff.mpr h3) h4 h5
        have := pe_lc (pos := p) C.calm C.nd k1 k2 k4 k5 k6 k7
        rw [k3] at this
        exact this.imp fun σ H Q w => lc_red w
      · cases h
    | _ => simp [mE] at h
  | met m o es iho ihs =>
    refine .of (fun X W py C h => ?_) (fun _ _ _ => by simp [mA]) (fun _ _ _ => by simp [mT]) (fun _ _ _ => by simp [mTs]) (fun _ _ _ => by simp [mI]) (fun _ _ _ => by simp [mC])
    simp [mE] at h
end
end Pd

/-! Raising own exceptions that keep a field. -/
namespace Pd
open L2 PyProof.Rows PySem.Spec PySem
/-- B.__init__(e, ..), B an own class whose __init__ is ValueError's -/
theorem pe_finit {X : Cx} {x : Str} {B : Addr} {e : Expr} {es : List Expr} {ta : TA} {p1 p2 pos : Pos} {pl : Sem Bool} (hg : Gl X x) (hm : X.mg x = some (.ref B)) (rd : PySem.W.readsIn X.K B (.type "type") = true)
    (ga : PySem.W.specialIn X.K (.ref B) "__getattribute__" = some (some (.builtin "type.__getattribute__"))) (vV : PySem.W.findCls X.K (.ref B) (.type "type") "__init__" = some (.val (.builtin "ValueError.__init__"))) (ha : PA X (e :: es) ta)
    (hc : eval (.Call (.Attribute (.Name x p1) "__init__" p2) (e :: es) [] pos) X.env = (do
      let ov ← eval (.Name x p1) X.env
      standAt p2.atName
      let (f, first) ← holding [ov] (getMethod ov "__init__" pl)
      callWith pos f first (backTo pos (starEach (e :: es) X.env)) (backToKw pos (keywordEach [] X.env)))) (hdb : (x == ("__debug__" : Str)) = false)
    (he : starEach (e :: es) X.env = (false, eval e X.env) :: starEach es X.env) (hpl : (backTo pos (starEach es X.env)).any (·.1) = false) :
    PE X (.Call (.Attribute (.Name x p1) "__init__" p2) (e :: es) [] pos) (tVeI X.K ta) := by
  refine ⟨fun pins s σ H Q I h => ?_⟩
  refine PySem.W.methodCall_KW (ld_glob I hg hm ?_ hdb) hc
  refine PySem.W.method_cls I.kIn ga ?_
  refine PySem.W.cls_value I.kIn rd vV (by decide +kernel) ?_
  show wpAny _ _ (callWith pos (Value.builtin "ValueError.__init__") [] (backTo pos (starEach (e :: es) X.env)) []) _ _ _
  refine PyProof.Rows.callWith_method1 (thn (ha.run pos pins _ σ H _ (I.tok _) h) fun us s1 ⟨vs, H1, I1, r1, a, C, ws, ev, hl, T, ea, q⟩ => ?_) he hpl
  subst ev
  cases r1 with
  | @cons _ u0 _ ur ra rw' =>
    obtain rfl : u0 = Value.ref a := ra
    have hlen : ur.length ≤ sizeLine := by
      rw [← Paired.length rw', sizeLine_eq]
      omega
    exact oinit_ok T I1 ea hlen fun s' J => ⟨.non, H1, J, rfl, q⟩
/-- what __init__(self, v) does: B.__init__(self, v); self.f = v -/
def spIni (K : PySem.W.Frag) (f : Str) : Sp := fun vs H Q _ => ∃ (a C : Addr) (v : V), vs = [.ref a, v] ∧ OexC K C ∧ H a = some (exo a C none) ∧ PySem.W.findIn K (.ref C) f = some none ∧
  ∀ dx, H dx = none → dx ≠ a → Q .non (upd (upd H dx (exd dx [(f, v)])) a (exo a C (some dx)))
def tIni (K : PySem.W.Frag) (f : Str) : TS := tSeq (tDrop (tVeI K (tCons (tVar 0) (tCons (tVar 1) tNil)))) (tSeq (tOst K f (tVar 0) (tVar 1)) tNext)
abbrev iniN (y : Str) : List Str := ["self", y]
theorem ini_fn {P : Program} {w : World} {K : PySem.W.Frag} {mg : Str → Option Value} {base : Heap} {fI : Addr} {fd : FuncData} {nm qual f y : Str} {params : Arguments} {body : List Stmt} {scope : Scope} (F : FunD K nm qual params body scope [] [] fI fd) (S : FnScope (iniN y) (iniN y) scope)
    (hb : ∀ X : Cx, X.K = K → X.mg = mg → X.env.scope = scope → X.N = (iniN y) → PSs X body (tIni X.K f)) : FnOk P w K mg base (L2.CX P w) 1 fI fd (iniN y) (spIni K f) := by
  refine F.ok S (fun vs H Q E ⟨a, C, v, e, _⟩ => by rw [e]; rfl) fun cdv A outer s H vs Q E hr hsp => ⟨tIni K f, hb (cxOf (L2.CX P w) P w K mg base (iniN y) qual scope fI cdv A outer s H E) rfl rfl rfl rfl, ?_⟩
  obtain ⟨a, C, v, rfl, T, ha, hno, fin⟩ := hsp
  refine ⟨.ref a, rfl, v, rfl, a, C, [v], rfl, by show 1 ≤ 1000; decide, T, ha, v, rfl, .ref a, rfl, a, C, rfl, T, hno, .inl ⟨ha, fun dx h1 h2 => fin dx h1 h2⟩⟩
/-- what is known of an own class of exceptions that keeps a field -/
def IniOk (K : PySem.W.Frag) (mg : Str → Option Value) (x f : Str) : Prop := ∃ (C fI : Addr) (fd : FuncData) (nm qual y : Str) (params : Arguments) (body : List Stmt) (scope : Scope), mg x = some (.ref C) ∧ OexC K C ∧ PySem.W.findIn K (.ref C) "__init__" = some (some (.ref fI)) ∧
  PySem.W.typeIn K (.ref fI) = some (.type "function") ∧ FunD K nm qual params body scope [] [] fI fd ∧ Binds K fd (iniN y) [] ∧ FnScope (iniN y) (iniN y) scope ∧ PySem.W.findIn K (.ref C) f = some none ∧
  ∀ X : Cx, X.K = K → X.mg = mg → X.env.scope = scope → X.N = iniN y → PSs X body (tIni X.K f)
/-- OexC by a look -/
def oexB (K : PySem.W.Frag) (C : Addr) : Bool := (match K.lookup C with
  | some ⟨.type "type", _, .cls cd, sl⟩ => (match cd.mro, sl.toList with
    | .ref C' :: bm, [_, _, _, _, some (.builtin n), _] => C' == C && n == "ValueError.__new__" && !cd.hasDel && cd.hasDict && PySem.HandSPX.refsVE bm
    | _, _ => false)
  | _ => false) && decide (PySem.W.findIn K (.ref C) "__setattr__" = some (some (.builtin "object.__setattr__"))) && decide (PySem.W.subIn K (.ref C) (.type "BaseException") = some true) && decide (PySem.W.typeIn K (.ref C) = some (.type "type")) && PySem.W.keepIn K (.ref C)
theorem oexB_ok {K : PySem.W.Frag} {C : Addr} (h : oexB K C = true) : OexC K C := by
  unfold oexB at h
  simp only [Bool.and_eq_true, decide_eq_true_eq] at h
  obtain ⟨⟨⟨⟨q, h1⟩, h2⟩, h3⟩, h4⟩ := h
  refine ⟨?_, h1, h2, h3, h4⟩
  split at q
  · rename_i dd cd sl ho
    split at q
    · rename_i C' bm k0 k1 k2 k3 n k5 hm hs
      simp only [Bool.and_eq_true, beq_iff_eq, Bool.not_eq_true'] at q
      obtain ⟨⟨⟨⟨rfl, rfl⟩, hdel⟩, hdi⟩, ht⟩ := q
      obtain ⟨nm, bs, mro, ns, qn, hd, sn, sub, ab, col, del⟩ := cd
      dsimp only at hm hdel hdi
      subst hm hdel hdi
      have hsl : sl = #[k0, k1, k2, k3, some (.builtin "ValueError.__new__"), k5] := by
        obtain ⟨l⟩ := sl
        simp only at hs
        rw [hs]
      subst hsl
      exact ⟨nm, qn, ns, bs, bm, sn, sub, ab, col, dd, k0, k1, k2, k3, k5, ho, ht⟩
    · cases q
  · cases q
/-- the body of such an __init__ -/
theorem ini_body {X : Cx} {x f y : Str} {B : Addr} {p1 p2 p3 p4 p5 p6 p7 p8 p9 p10 : Pos} {pl : Sem Bool} (hN : X.N = iniN y) (hv : visC X.env.scope "self" = true) (hv2 : visC X.env.scope y = true) (hg : glC X.env.scope x = true) (hm : X.mg x = some (.ref B))
    (rd : PySem.W.readsIn X.K B (.type "type") = true) (ga : PySem.W.specialIn X.K (.ref B) "__getattribute__" = some (some (.builtin "type.__getattribute__"))) (vV : PySem.W.findCls X.K (.ref B) (.type "type") "__init__" = some (.val (.builtin "ValueError.__init__")))
    (hc : eval (.Call (.Attribute (.Name x p1) "__init__" p2) [.Name "self" p3, .Name y p4] [] p5) X.env = (do
      let ov ← eval (.Name x p1) X.env
      standAt p2.atName
      let (f, first) ← holding [ov] (getMethod ov "__init__" pl)
      callWith p5 f first (backTo p5 (starEach [.Name "self" p3, .Name y p4] X.env)) (backToKw p5 (keywordEach [] X.env)))) :
    PSs X [.Expr (.Call (.Attribute (.Name x p1) "__init__" p2) [.Name "self" p3, .Name y p4] [] p5) p6, .Assign [.Attribute (.Name "self" p7) f p8] (.Name y p9) p10] (tIni X.K f) := by
  obtain ⟨a1, a2, a3⟩ := visC_ok hv
  obtain ⟨b1, b2, b3⟩ := visC_ok hv2
  have h0 : X.N[0]? = some ("self" : Str) := by rw [hN]; rfl
  have h1 : X.N[1]? = some y := by rw [hN]; rfl
  have v0 : ∀ p, PE X (.Name "self" p) (tVar 0) := fun p => pe_var h0 a1 a2 a3
  have v1 : ∀ p, PE X (.Name y p) (tVar 1) := fun p => pe_var h1 b1 b2 b3
  exact pss_cons (ps_expr (pe_finit (glC_ok hg).1 hm rd ga vV (pa_cons (v0 _) (pa_cons (v1 _) pa_nil rfl) rfl) hc (glC_ok hg).2 rfl rfl) rfl) (pss_cons (ps_ost (v0 _) (v1 _) rfl) pss_nil)
end Pd

/-! Statements: that a Python statement is said by the short one; readings; soundness. -/
namespace Pd
open L2 PyProof.Rows PySem.Spec PySem

def notComp : Expr → Bool
  | .ListComp .. => false
  | .SetComp .. => false
  | .DictComp .. => false
  | _ => true
def notTup : Expr → Bool
  | .Tuple .. => false
  | _ => true
def isCellC (sc : Scope) (x : Str) : Bool := match sc.names.lookup x with
  | some .cell => true
  | _ => false
def isLocC (sc : Scope) (x : Str) : Bool := match sc.names.lookup x with
  | some .local => true
  | _ => false
def lcFree (y : Str) (pl : Pos) : Expr → Bool
  | .ListComp _ _ scope p => (pl.line == p.line) && !(scope.names.any fun (n, k) => n == y && (k == .local || k == .cell))
  | _ => false
/-- in a function's scope -/
def funC (sc : Scope) : Bool := match sc.kind with
  | .function => true
  | _ => false
def ekName : EK → Str
  | .mal => "Malformed"
  | .ref => "Refused"
  | .nt => "NoText"
def ekField : EK → Str
  | .mal => ""
  | .ref => "reason"
  | .nt => "at"
def starC : Expr → Bool
  | .Starred .. => true
  | _ => false
def slotName (sc : Scope) (line : Nat) : Expr → Option Str
  | .Name id pos => if sc.names.lookup id == some .local && pos.line == line then some id else none
  | _ => none
def headLine (ts : List Expr) : Nat := (ts.head?.map (·.pos.line)).getD 0
/-- what the machine says of several names stored at once; none: it does not say -/
def swapC (sc : Scope) (ts vs : List Expr) : Option (Option (List Str)) :=
  if (!(ts.length == 2 || ts.length == 3) || vs.length != ts.length) = true then some none else
  if vs.any starC = true then none else
  if ((ts.filterMap (slotName sc (headLine ts))).length != ts.length || (ts.filterMap (slotName sc (headLine ts))).eraseDups.length != (ts.filterMap (slotName sc (headLine ts))).length) = true then some none else
  if vs.all (foldedForSure 8) = true then some none else
  if vs.all (constantsAlone 8) = true then none else some (some (ts.filterMap (slotName sc (headLine ts))))
/-- how several names are stored -/
def mPar (sc : Scope) (ts vs : List Expr) : Bool := (match sc.kind with
  | .function => true
  | _ => false) && (match swapC sc ts vs with
  | some none => true
  | some (some _) => ts.all fun t => match t with
    | .Name x _ => isLocC sc x
    | _ => false
  | none => false)
/-- an except clause's suite: what it hands back -/
def mHr (M : Mx) (k : EK) (sl : Option Nat) (e : E) (sc : Scope) (nm : Option Str) (pes : List Expr) : Bool := match sl, e, nm, pes with
  | none, .tup (.cons (.str a) (.cons .non .nil)), none, [.Constant (.str b) _ _, .Constant .none _ _] => decide (a = b)
  | none, .tup (.cons (.str a) (.cons (.str c) .nil)), none, [.Constant (.str b) _ _, .Constant (.str d) _ _] => decide (a = b) && decide (c = d)
  | some i, .tup (.cons (.str a) .nil), some n, [.Constant (.str b) _ _, .Attribute (.Name m _) f _] => decide (a = b) && decide (M.N[i]? = some n) && decide (m = n) && isLocC sc n && visC sc n && decide (f = ekField k) && decide (k ≠ .mal)
  | _, _, _, _ => false
def mH (M : Mx) : S → Scope → List ExceptHandler → Bool
  | .nil, _, hs => hs.isEmpty
  | .hnd k sl e r, sc, hs => match hs with
    | .ExceptHandler (some (.Name x _)) nm [.Return (some (.Tuple pes _ _)) _] _ :: hs => decide (x = ekName k) && glC sc x && M.tb.ek k && mHr M k sl e sc nm pes && mH M r sc hs
    | _ => false
  | _, _, _ => false
termination_by structural s => s
mutual
def mS (M : Mx) : S → Scope → Stmt → Bool
  | .expr e, sc, st => match st with
    | .Expr v _ => notComp v && mE M e sc v
    | _ => false
  | .asg i e, sc, st => match st with
    | .Assign [.Name x _] v _ => decide (M.N[i]? = some x) && locC sc x && mE M e sc v && (notComp v || isCellC sc x)
    | _ => false
  | .asgl i e, sc, st => match st with
    | .Assign [.Name x p] v _ => decide (M.N[i]? = some x) && isLocC sc x && mE M e sc v && lcFree x p v && funC sc
    | _ => false
  | .unp is e, sc, st => match st with
    | .Assign [.Tuple ts _ _] v _ => mNames M.N sc is ts && notTup v && mE M e sc v
    | _ => false
  | .rexc k e, sc, st => match st with
    | .Raise (some (.Call (.Name x _) [v] [] _)) none _ => decide (x = ekName k) && glC sc x && mE M e sc v && M.tb.ri k && decide (3 ≤ M.k)
    | _ => false
  | .par is es, sc, st => match st with
    | .Assign [.Tuple ts _ _] (.Tuple vs _ _) _ => mNames M.N sc is ts && mA M es sc vs && decide (vs.length ≤ 1000) && decide (ts.length = vs.length) && decide is.Nodup && mPar sc ts vs
    | _ => false
  | .tr b hs, sc, st => match st with
    | .Try body (h :: hs') [] [] _ => mB M b sc body && mH M hs sc (h :: hs')
    | _ => false
  | .app i e, sc, st => match st with
    | .Expr (.Call (.Attribute (.Name x _) m ap) [v] [] cp) _ => decide (M.N[i]? = some x) && visC sc x && decide (m = ("append" : Str)) && mE M e sc v && (ap.endLine == cp.line)
    | _ => false
  | .seti i a e, sc, st => match st with
    | .Assign [.Subscript (.Name x _) k _] v _ => decide (M.N[i]? = some x) && visC sc x && mE M a sc k && mE M e sc v
    | _ => false
  | .ret e, sc, st => match st with
    | .Return (some v) _ => mE M e sc v
    | _ => false
  | .retn, _, st => match st with
    | .Return none _ => true
    | _ => false
  | .ife c a b, sc, st => match st with
    | .If t x y _ => mT M c sc t && mB M a sc x && mB M b sc y
    | _ => false
  | .whl c b, sc, st => match st with
    | .While t x [] _ => mT M c sc t && mB M b sc x
    | _ => false
  | .for_ is tp it b, sc, st => match st with
    | .For tg i x [] _ => mTgt M.N sc is tp tg && (mI M it sc i && itTg it tg && noSow it) && mB M b sc x
    | _ => false
  | .brk, _, st => match st with
    | .Break _ => true
    | _ => false
  | .cnt, _, st => match st with
    | .Continue _ => true
    | _ => false
  | .rmal m, sc, st => match st with
    | .Raise (some (.Call (.Name x _) [.Constant (.str t) _ _] [] _)) none _ => decide (x = ("Malformed" : Str)) && glC sc x && decide (m = t) && M.tb.ek .mal
    | _ => false
  | _, _, _ => false
termination_by structural s => s
def mB (M : Mx) : S → Scope → List Stmt → Bool
  | .nil, _, sts => sts.isEmpty
  | .seq s r, sc, sts => match sts with
    | st :: sts => mS M s sc st && mB M r sc sts
    | [] => false
  | _, _, _ => false
termination_by structural s => s
end
end Pd

/-! Soundness of statements. -/
namespace Pd
open L2 PyProof.Rows PySem.Spec PySem
section
variable {R : RC} {Z : Addr → Prop} {H0 H H' : Hp} {io : Option (Nat × Addr)} {σ : Sg} {env env' : Loca}
/-- knowledge given up -/
theorem ER.weak (r : ER R Z H0 io σ H env) (w : Weak (io.map (·.1)) env env') : ER R Z H0 io σ H env' ∧ Mono σ H env σ H env' := by
  obtain ⟨wl, wc⟩ := w
  have oldc : ∀ {i : Nat} {c' : Cl}, env'[i]? = some c' → ∃ c, env[i]? = some c ∧ WkC c c' ∧ (io.map (·.1) = some i → c = c') := fun {i c'} h => by
    have hi : i < env.length := by
      have := (List.getElem?_eq_some_iff.mp h).1
      omega
    have hc := List.getElem?_eq_getElem hi
    obtain ⟨a, b⟩ := wc i _ _ hc h
    exact ⟨_, hc, a, b⟩
  have ow : ∀ {i : Nat} {d : D}, env'[i]? = some (.own d) → env[i]? = some (.own d) := fun {i d} h => by
    obtain ⟨c, hc, k, _⟩ := oldc h
    cases k
    exact hc
  have owm : ∀ b, Own σ env' b → Own σ env b := fun b ⟨i, d, h1, h2⟩ => ⟨i, d, ow h1, h2⟩
  have m : Mono σ H env σ H env' := ⟨fun _ _ h _ => h, fun b h => .inl (owm b h), fun _ o h => ⟨o, h⟩⟩
  refine ⟨⟨r.len.trans wl.symm, fun i d h => ?_, fun i d h => ?_, fun i j d e a h1 h2 => r.inj i j d e a (ow h1) (ow h2), r.old, fun a h => r.new a (owm a h), r.zok, fun a h => r.zown a (owm a h), fun p a h => ?_⟩, m⟩
  · obtain ⟨c, hc, k, hio⟩ := oldc h
    cases k with
    | refl =>
      obtain ⟨v, s, q⟩ := r.cell i d hc
      exact ⟨v, s, q.mono m.see⟩
    | rel =>
      obtain ⟨a, s, q⟩ := r.own i d hc
      refine ⟨.ref a, s, ?_⟩
      have nz : ¬ Z a := fun z => by
        obtain ⟨p, e⟩ := r.zown a ⟨i, d, hc, s⟩ z
        obtain ⟨s2, f, h2⟩ := r.ios p a e
        have := r.inj i p d f a hc h2 s s2
        subst this
        have := hio (by rw [e]; rfl)
        cases this
      have no : ¬ Own σ env' a := fun ⟨j, e, h1, h2⟩ => by
        have := r.inj i j d e a hc (ow h1) s h2
        subst this
        rw [h] at h1; cases h1
      cases q with
      | lst h1 t => exact .lst (hid_of nz no h1) (t.mono m.see)
      | dk h1 t => exact .dk (hid_of nz no h1) (t.mono m.see)
  · obtain ⟨a, s, q⟩ := r.own i d (ow h)
    exact ⟨a, s, q.mono rfl m.see⟩
  · obtain ⟨s, d, hd⟩ := r.ios p a h
    refine ⟨s, d, ?_⟩
    have hi : p < env'.length := by
      have := (List.getElem?_eq_some_iff.mp hd).1
      omega
    have hc := List.getElem?_eq_getElem hi
    obtain ⟨c, h1, _, h3⟩ := oldc hc
    rw [hd] at h1
    cases h1
    rw [hc, ← h3 (by rw [h]; rfl)]
end

/-- what is known where a statement stands -/
structure Sok (G : Gx) (gi : Str → Option Int) (X : Cx) (W : WX) : Prop extends Cok G gi X W where
  po : PassesOwn (model X.prog X.w) X.A X.env X.xe
  fnt : ∀ x, X.fn x = true
  hs : X.stack = X.env :: X.outer
  hf : X.env.frame = some X.env.locals
  mal : G.tb.ek .mal = true → ∃ C, X.mg "Malformed" = some (.ref C) ∧ PySem.W.excIn X.K C [.type "ValueError", .type "Exception", .type "BaseException", .type "object"] "ValueError.__new__" = true ∧ PySem.W.keepIn X.K (.ref C) = true ∧
    PySem.W.subIn X.K (.ref C) (.type "BaseException") = some true ∧ PySem.W.typeIn X.K (.ref C) = some (.type "type")
  ekc : ∀ k, G.tb.ek k = true → ∃ C, X.mg (ekName k) = some (.ref C) ∧ (k ≠ .mal → XfC X.K C ∧ PySem.W.findIn X.K (.ref C) (ekField k) = some none)
  ini : ∀ k, G.tb.ri k = true → IniOk X.K X.mg (ekName k) (ekField k)
  ekx : ∀ k k' C C', G.tb.ek k' = true → X.mg (ekName k) = some C → X.mg (ekName k') = some C' → PySem.W.exmOne X.K C C' = some (decide (k = k'))

/-- a value handed back: the datum, and whether the list is a new one -/
def RtR (R : RC) (Z : Addr → Prop) (H0 H : Hp) (v : V) (d : D) (fr : Bool) : Prop :=
  Rep R (hz Z H) v d ∧ (fr = true → isMut d = true → ∃ p, v = .ref p ∧ H0 p = none ∧ (∃ o, H p = some o) ∧ RepO R H (hz (zx Z p) H) p d)
/-- what stands behind a statement, told to the machine's side -/
structure Lks (R : RC) (Z : Addr → Prop) (H0 : Hp) (io : Option (Nat × Addr)) (W : WX) (σ : Sg) (H : Hp) (env : Loca) (P : Po) (D : Ends) : Prop where
  nx : ∀ σ' H' env', ER R Z H0 io σ' H' env' → Mono σ H env σ' H' env' → P.nx env' → D.nx σ' H'
  bk : ∀ σ' H' env', ER R Z H0 io σ' H' env' → Mono σ H env σ' H' env' → P.bk env' → D.bk σ' H'
  ct : ∀ σ' H' env', ER R Z H0 io σ' H' env' → Mono σ H env σ' H' env' → P.ct env' → D.ct σ' H'
  rt : ∀ σ' H' env' v d fr, ER R Z H0 io σ' H' env' → Mono σ H env σ' H' env' → RtR R Z H0 H' v d fr → P.rt d fr env' → D.rt v H'
  ex : ∀ x σ' H' env' c dd, ER R Z H0 io σ' H' env' → Mono σ H env σ' H' env' → XRep R.mg H' c dd x → P.ex x env' → W c dd σ' H'
section
variable {R : RC} {Z : Addr → Prop} {H0 H H' : Hp} {io : Option (Nat × Addr)} {W : WX} {σ σ' : Sg} {env env' : Loca} {P : Po} {D : Ends}
theorem Lks.step (l : Lks R Z H0 io W σ H env P D) (m : Mono σ H env σ' H' env') : Lks R Z H0 io W σ' H' env' P D :=
  ⟨fun s h e r n => l.nx s h e r (m.trans n), fun s h e r n => l.bk s h e r (m.trans n), fun s h e r n => l.ct s h e r (m.trans n), fun s h e v d f r n => l.rt s h e v d f r (m.trans n), fun x s h e c dd r n => l.ex x s h e c dd r (m.trans n)⟩
theorem Lks.lk (l : Lks R Z H0 io W σ H env P D) : Lk R Z H0 io W σ H env P.ex := fun x env' c dd H' r m h k => l.ex x σ H' env' c dd r m h k
end
def tS (G : Gx) (X : Cx) (W : WX) (s : S) : TS := fun D σ H => ∃ (Z : Addr → Prop) (H0 : Hp) (io : Option (Nat × Addr)) (env : Loca) (P : Po),
  G.iop = io.map (·.1) ∧ ER (rcOf G X) Z H0 io σ H env ∧ wS G s env P ∧ Lks (rcOf G X) Z H0 io W σ H env P D
section
variable {G : Gx} {gi : Str → Option Int} {X : Cx} {W : WX}
theorem ne_io {io : Option (Nat × Addr)} (hi : G.iop = io.map (·.1)) {i : Nat} (h : G.iop ≠ some i) : ∀ a, io ≠ some (i, a) := fun a q => h (by rw [hi, q]; rfl)
theorem swap_no {v : Expr} (h : notComp v = true) (t : Option Expr) (l : Nat) (env : Env) : swapsWith v t l env = pure false := by
  cases v <;> first | rfl | (simp [notComp] at h)
theorem swap_other {v : Expr} {t : Expr} (h : ∀ x p, t ≠ .Name x p) (l : Nat) (env : Env) : swapsWith v (some t) l env = pure false := by
  cases v <;> first | rfl | (cases t <;> first | rfl | exact absurd rfl (h _ _))
theorem swap_cell {v : Expr} {x : Str} {p : Pos} {l : Nat} {env : Env} (hk : isCellC env.scope x = true) : swapsWith v (some (.Name x p)) l env = pure false := by
  have k : env.kindOf x = some .cell := by
    unfold isCellC at hk
    split at hk
    · assumption
    · cases hk
  cases v <;> first | rfl | (unfold swapsWith; simp only [k]; rw [show (some NameKind.cell == some NameKind.local) = false by decide, Bool.and_false]; rfl)
theorem s_nilS : PSs X [] (tS G X W .nil) := by
  refine pss_nil.imp ?_
  rintro D σ H ⟨Z, H0, io, env, P, hi, er, w, l⟩
  exact l.nx σ H env er .refl w
theorem s_seqS {s r : S} {st : Stmt} {sts : List Stmt} (h1 : PS X st (tS G X W s)) (h2 : PSs X sts (tS G X W r)) : PSs X (st :: sts) (tS G X W (.seq s r)) := by
  refine (pss_cons h1 h2).imp ?_
  rintro D σ H ⟨Z, H0, io, env, P, hi, er, w, l⟩
  unfold wS at w
  exact ⟨Z, H0, io, env, _, hi, er, w, ⟨fun σ' H' env' r m k => ⟨Z, H0, io, env', P, hi, r, k, l.step m⟩, l.bk, l.ct, l.rt, l.ex⟩⟩
theorem s_expr {e : E} {v : Expr} {pos : Pos} (h : PE X v (tE G X W e)) (hc : notComp v = true) : PS X (.Expr v pos) (tS G X W (.expr e)) := by
  refine (ps_expr h (swap_no hc _ _ _)).imp ?_
  rintro D σ H ⟨Z, H0, io, env, P, hi, er, w, l⟩
  unfold wS at w
  exact ⟨Z, H0, io, env, _, _, hi, er, l.lk, w, fun d env' v H' r m _ _ k => l.nx σ H' env' r m k⟩
/-- a local is stored -/
theorem put_cell {R : RC} {Z : Addr → Prop} {H0 H H' : Hp} {io : Option (Nat × Addr)} {σ : Sg} {env env' : Loca} {e : E} {d : D} {v : V} {i : Nat} (r : ER R Z H0 io σ H' env') (m : Mono σ H env σ H' env') (q : Rep R (hid Z σ env' H') v d)
    (f : frE G.tb e = true → isMut d = true → ∃ p, v = .ref p ∧ Fri R Z H0 io H σ H' env' p d) (ni : ∀ a, io ≠ some (i, a)) :
    ER R Z H0 io (σ.set i (some v)) H' (put env' i (cellOf G.tb e d)) ∧ Mono σ H env (σ.set i (some v)) H' (put env' i (cellOf G.tb e d)) := by
  unfold cellOf
  by_cases hb : (frE G.tb e && isMut d) = true
  · rw [if_pos hb]
    simp only [Bool.and_eq_true] at hb
    obtain ⟨p, rfl, fi⟩ := f hb.1 hb.2
    exact ⟨fi.er.putHid fi.nz fi.h0 fi.nio ni fi.cont, m.putHid fi.hs⟩
  · rw [if_neg hb]
    obtain ⟨r1, m1⟩ := r.put q ni
    exact ⟨r1, m.trans m1⟩
theorem asg_red {te : TE} {i : Nat} {e : E} {D : Ends} {σ : Sg} {H : Hp} (ht : ∀ Q, tE G X W e σ H Q → te σ H Q) (h : tS G X W (.asg i e) D σ H) : tAsg te (gName i) D σ H := by
  obtain ⟨Z, H0, io, env, P, hi, er, w, l⟩ := h
  unfold wS at w
  refine ht _ ⟨Z, H0, io, env, _, _, hi, er, l.lk, w, fun d env' v H' r m q f k => ?_⟩
  obtain ⟨h1, k⟩ := k
  obtain ⟨r1, m1⟩ := put_cell (G := G) r m q f (ne_io hi h1)
  exact l.nx _ H' _ r1 m1 k
theorem s_asg {i : Nat} {e : E} {x : Str} {v : Expr} {p pos : Pos} (S : Sok G gi X W) (hN : X.N[i]? = some x) (hx : locC X.env.scope x = true) (h : PE X v (tE G X W e)) (hc : notComp v = true ∨ isCellC X.env.scope x = true) : PS X (.Assign [.Name x p] v pos) (tS G X W (.asg i e)) :=
  (ps_set S.nd hN (locC_ok hx) h (hc.elim (fun h => swap_no h _ _ _) fun h => swap_cell h) (.inl (S.fnt x))).imp fun D σ H w => asg_red (fun _ h => h) w
theorem s_unp {is : List Nat} {e : E} {ts : List Expr} {k : Nat} {v : Expr} {p pos : Pos} (S : Sok G gi X W) (hm : mNames X.N X.env.scope is ts = true) (ht : notTup v = true) (h : PE X v (tE G X W e)) : PS X (.Assign [.Tuple ts k p] v pos) (tS G X W (.unp is e)) := by
  have St : Stor X X.N X.env.scope := ⟨rfl, fun x hx => ⟨locC_ok hx, .inl (S.fnt x)⟩⟩
  obtain ⟨g, g1, g2⟩ := pgs_names St S.nd hm
  refine (ps_asg h (pg_tup S.calm g g1 g2) (swap_other (t := .Tuple ts k p) (by intro x q z; cases z) pos.line X.env) (by cases v <;> first | rfl | (simp [notTup] at ht)) rfl).imp ?_
  rintro D σ H ⟨Z, H0, io, env, P, hi, er, w, l⟩
  unfold wS at w
  refine ⟨Z, H0, io, env, _, _, hi, er, l.lk, w, fun d env' v H' r m q f k => ?_⟩
  obtain ⟨h1, ds, rfl, hl, k⟩ := k
  cases q with
  | tup hs hr =>
    obtain ⟨r1, m1⟩ := r.putAll hr fun i h => ne_io hi (h1 i h)
    have hl' := hr.length.trans hl
    exact ⟨_, _, rfl, sqT_mono hid_le hs, hl', hl', l.nx _ H' _ r1 (m.trans m1) k⟩
theorem see_base {Z : Addr → Prop} {σ : Sg} {env : Loca} {H : Hp} : Same (hid Z σ env H) (hz Z H) := fun b o q => by
  obtain ⟨a1, _, a3⟩ := hid_some q
  unfold hz
  rw [if_neg a1]
  exact a3
theorem rt_fri {R : RC} {Z : Addr → Prop} {H0 Hs H : Hp} {io : Option (Nat × Addr)} {σ : Sg} {env : Loca} {p : Addr} {d : D} (f : Fri R Z H0 io Hs σ H env p d) : ∃ q, V.ref p = .ref q ∧ H0 q = none ∧ (∃ o, H q = some o) ∧ RepO R H (hz (zx Z q) H) q d :=
  ⟨p, rfl, f.h0, f.cont.some, f.cont.mono rfl see_base⟩
theorem s_ret {e : E} {v : Expr} {pos : Pos} (h : PE X v (tE G X W e)) (hv : ∀ i, e = .var i → ∃ x p, v = .Name x p ∧ X.N[i]? = some x ∧ visC X.env.scope x = true) : PS X (.Return (some v) pos) (tS G X W (.ret e)) := by
  have gen : (∀ env P, wRet G e env P = wE G e env (fun d env1 => P.rt d (frE G.tb e) env1) P.ex) → PS X (.Return (some v) pos) (tS G X W (.ret e)) := fun hw => by
    refine (ps_ret h).imp ?_
    rintro D σ H ⟨Z, H0, io, env, P, hi, er, w, l⟩
    unfold wS at w
    rw [hw] at w
    refine ⟨Z, H0, io, env, _, _, hi, er, l.lk, w, fun d env' v H' r m q f k => l.rt σ H' env' v d _ r m ⟨q.mono see_base, fun h1 h2 => ?_⟩ k⟩
    obtain ⟨p, rfl, fi⟩ := f h1 h2
    exact rt_fri fi
  cases e with
  | var i =>
    obtain ⟨x, p, rfl, hN, hx⟩ := hv i rfl
    obtain ⟨h1, h2, h3⟩ := visC_ok hx
    refine (ps_ret (pe_var hN h1 h2 h3)).imp ?_
    rintro D σ H ⟨Z, H0, io, env, P, hi, er, w, l⟩
    unfold wS wRet at w
    dsimp only at w
    cases hc : at_ env i with
    | emp => rw [hc] at w; exact w.elim
    | val d =>
      rw [hc] at w
      obtain ⟨u, e1, q⟩ := er.cell i d (at_some hc (by intro z; cases z))
      exact ⟨u, e1, l.rt σ H env u d false er .refl ⟨q.mono see_base, fun h => by cases h⟩ w⟩
    | own d =>
      rw [hc] at w
      obtain ⟨hne, w⟩ := w
      have hcell := at_some hc (by intro z; cases z)
      obtain ⟨a, e1, ro⟩ := er.own i d hcell
      obtain ⟨_, _, a', e2, q⟩ := er.release hcell (ne_io hi hne)
      rw [e1] at e2; cases e2
      refine ⟨.ref a, e1, l.rt σ H env (.ref a) d true er .refl ⟨q.mono see_base, fun _ _ => ⟨a, rfl, ?_, ro.some, ro.mono rfl fun b o hb => ?_⟩⟩ w⟩
      · rcases er.new a ⟨i, d, hcell, e1⟩ with z | ⟨p, z⟩
        · exact z
        · obtain ⟨s2, f, h2⟩ := er.ios p a z
          have := er.inj i p d f a hcell h2 e1 s2
          subst this
          exact absurd z (ne_io hi hne a)
      · obtain ⟨a1, a2, a3⟩ := hid_some hb
        unfold hz
        rw [if_neg]
        · exact a3
        · rintro (z | rfl)
          · exact a1 z
          · exact a2 ⟨i, d, hcell, e1⟩
  | _ => exact gen fun _ _ => rfl
theorem s_retn {pos : Pos} : PS X (.Return none pos) (tS G X W .retn) := by
  refine ps_retN.imp ?_
  rintro D σ H ⟨Z, H0, io, env, P, hi, er, w, l⟩
  exact l.rt σ H env .non .non false er .refl ⟨.non, fun h => by cases h⟩ w
theorem s_ife {c : E} {a b : S} {t : Expr} {x y : List Stmt} {pos : Pos} (hc : PT X t (tT G X W (wT G c))) (ha : PSs X x (tS G X W a)) (hb : PSs X y (tS G X W b)) : PS X (.If t x y pos) (tS G X W (.ife c a b)) := by
  refine (ps_if hc ha hb).imp ?_
  rintro D σ H ⟨Z, H0, io, env, P, hi, er, w, l⟩
  unfold wS at w
  refine ⟨Z, H0, io, env, _, _, hi, er, l.lk, w, fun r env1 H1 er1 m1 w1 => ?_⟩
  cases r with
  | true =>
    rw [if_pos rfl] at w1 ⊢
    exact ⟨Z, H0, io, env1, P, hi, er1, w1, l.step m1⟩
  | false =>
    rw [if_neg Bool.false_ne_true] at w1 ⊢
    exact ⟨Z, H0, io, env1, P, hi, er1, w1, l.step m1⟩
theorem s_whl {c : E} {b : S} {t : Expr} {x : List Stmt} {pos : Pos} (S : Sok G gi X W) (hc : PT X t (tT G X W (wT G c))) (hb : PSs X x (tS G X W b)) : PS X (.While t x [] pos) (tS G X W (.whl c b)) := by
  refine (ps_while S.po hc hb).imp ?_
  rintro D σ H ⟨Z, H0, io, env, P, hi, er, w, l⟩
  unfold wS at w
  obtain ⟨I, ⟨n0, e0, wk0, i0⟩, turn⟩ := w
  obtain ⟨er0, m0⟩ := er.weak (by rw [← hi]; exact wk0)
  refine ⟨fun n σ' H' => ∃ envt, ER (rcOf G X) Z H0 io σ' H' envt ∧ Mono σ H env σ' H' envt ∧ I n envt, ⟨n0, e0, er0, m0, i0⟩, ?_⟩
  rintro n σ1 H1 ⟨env1, er1, m1, i1⟩
  refine ⟨Z, H0, io, env1, _, _, hi, er1, (l.step m1).lk, turn n env1 i1, fun r env2 H2 er2 m2 w2 => ?_⟩
  have m12 := m1.trans m2
  cases r with
  | true =>
    rw [if_pos rfl] at w2
    refine L2.iteT ⟨fun σ' H' => ∃ envt k, k < n ∧ ER (rcOf G X) Z H0 io σ' H' envt ∧ Mono σ H env σ' H' envt ∧ I k envt, fun σ' H' ⟨e, k, hk, a1, a2, a3⟩ => ⟨k, hk, e, a1, a2, a3⟩, Z, H0, io, env2, _, hi, er2, w2, ?_⟩
    have next : ∀ σ' H' env', ER (rcOf G X) Z H0 io σ' H' env' → Mono σ1 H2 env2 σ' H' env' → (∃ env'' m, Weak G.iop env' env'' ∧ m < n ∧ I m env'') → ∃ envt k, k < n ∧ ER (rcOf G X) Z H0 io σ' H' envt ∧ Mono σ H env σ' H' envt ∧ I k envt := fun σ' H' env' r mm ⟨e, k, wk, hk, ik⟩ => by
      obtain ⟨r2, m2⟩ := r.weak (by rw [← hi]; exact wk)
      exact ⟨e, k, hk, r2, (m12.trans mm).trans m2, ik⟩
    exact ⟨next, fun s h e r mm k => l.nx s h e r (m12.trans mm) k, next, (l.step m12).rt, (l.step m12).ex⟩
  | false =>
    rw [if_neg Bool.false_ne_true] at w2
    exact L2.iteF <| l.nx σ1 H2 env2 er2 m12 w2
theorem s_for {is : List Nat} {tp : Bool} {it : E} {b : S} {tg i : Expr} {x : List Stmt} {pos : Pos} (S : Sok G gi X W) (ht : mTgt X.N X.env.scope is tp tg = true) (hns : noSow it = true) (hi' : PI X tg i (tI G X W it)) (hfo : ∀ v, foldedSetIterable i X.env v = pure v) (hb : PSs X x (tS G X W b)) :
    PS X (.For tg i x [] pos) (tS G X W (.for_ is tp it b)) := by
  have St : Stor X X.N X.env.scope := ⟨rfl, fun x hx => ⟨locC_ok hx, .inl (S.fnt x)⟩⟩
  refine (ps_for S.po S.calm hi' (pg_T St S.nd S.calm ht) hb hfo).imp ?_
  rintro D σ H ⟨Z, H0, io, env, P, hi, er, w, l⟩
  unfold wS at w
  refine ⟨Z, H0, io, env, _, _, hi, er, l.lk, w, fun ds env1 H1 J er1 m1 jok w1 => ?_⟩
  obtain ⟨hno, w1⟩ := w1
  have nio : ∀ i ∈ is, ∀ a, io ≠ some (i, a) := fun i h => ne_io hi (hno i h)
  refine ⟨fun i m σ' H' => ∃ envt, m = ds.length - i ∧ i ≤ ds.length ∧ ER (rcOf G X) Z H0 io σ' H' envt ∧ Mono σ H1 env1 σ' H' envt ∧ forLoop G.iop (fun d env2 P' => wTgt is tp d env2 fun env3 => wS G b env3 P') (ds.drop i) envt P, ⟨ds.length, env1, by omega, by omega, er1, .refl, w1⟩, ?_⟩
  rintro i m σ2 H2 ⟨env2, rfl, hil, er2, m2, w2⟩
  obtain ⟨jgo, jstop⟩ := jok Z H0 io σ2 H2 env2 er2 m2.see (kI_of hns _ _ _ _)
  by_cases hlt : i < ds.length
  · right
    have hd : ds[i]? = some ds[i] := List.getElem?_eq_getElem hlt
    obtain ⟨go, yl⟩ := jgo i _ hd
    rw [List.drop_eq_getElem_cons hlt, forLoop] at w2
    refine ⟨go, fun σ' H' => ∃ envt, ER (rcOf G X) Z H0 io σ' H' envt ∧ Mono σ H1 env1 σ' H' envt ∧ forLoop G.iop (fun d env2 P' => wTgt is tp d env2 fun env3 => wS G b env3 P') (ds.drop (i + 1)) envt P, fun σ' H' ⟨e, a1, a2, a3⟩ => ⟨ds.length - (i + 1), by omega, e, rfl, by omega, a1, a2, a3⟩, fun v H3 y => ?_⟩
    obtain ⟨s3, rx⟩ := yl v H3 y
    have er3 := er2.grow s3
    have m3 := m2.trans (mono_grow (σ := σ2) (env := env2) s3)
    refine of_tgt (R := rcOf G X) er3 rx nio w2 fun σ4 env4 er4 m4 _ w4 => ?_
    have m14 := m3.trans m4
    refine ⟨Z, H0, io, env4, _, hi, er4, w4, ?_⟩
    have next : ∀ σ' H' env', ER (rcOf G X) Z H0 io σ' H' env' → Mono σ4 H3 env4 σ' H' env' → (∃ env'', Weak G.iop env' env'' ∧ forLoop G.iop (fun d env2 P' => wTgt is tp d env2 fun env3 => wS G b env3 P') (ds.drop (i + 1)) env'' P) →
        ∃ envt, ER (rcOf G X) Z H0 io σ' H' envt ∧ Mono σ H1 env1 σ' H' envt ∧ forLoop G.iop (fun d env2 P' => wTgt is tp d env2 fun env3 => wS G b env3 P') (ds.drop (i + 1)) envt P := fun σ' H' env' r mm ⟨e, wk, ik⟩ => by
      obtain ⟨r2, m2⟩ := r.weak (by rw [← hi]; exact wk)
      exact ⟨e, r2, (m14.trans mm).trans m2, ik⟩
    have lm := l.step (m1.trans m14)
    exact ⟨next, lm.nx, next, lm.rt, lm.ex⟩
  · left
    have ei : i = ds.length := by omega
    subst ei
    rw [List.drop_length, forLoop] at w2
    exact ⟨jstop _ (Nat.le_refl _), l.nx σ2 H2 env2 er2 (m1.trans m2) w2⟩
theorem s_brk {pos : Pos} : PS X (.Break pos) (tS G X W .brk) := by
  refine ps_break.imp ?_
  rintro D σ H ⟨Z, H0, io, env, P, hi, er, w, l⟩
  exact l.bk σ H env er .refl w
theorem s_cnt {pos : Pos} : PS X (.Continue pos) (tS G X W .cnt) := by
  refine ps_continue.imp ?_
  rintro D σ H ⟨Z, H0, io, env, P, hi, er, w, l⟩
  exact l.ct σ H env er .refl w
theorem s_rmal {m t : Str} {j : Nat} {p p2 p3 pos : Pos} (S : Sok G gi X W) (hek : G.tb.ek .mal = true) (hg : Gl X "Malformed") : PS X (.Raise (some (.Call (.Name "Malformed" p) [.Constant (.str t) j p2] [] p3)) none pos) (tS G X W (.rmal m)) := by
  obtain ⟨C, hC, h1, h2, h3, h4⟩ := S.mal hek
  refine (ps_raise S.calm S.tk (pmk_own PySem.F.excBase_ValueError h1 hC h2 (raises_own h3 h4) hg)).imp ?_
  rintro D σ H ⟨Z, H0, io, env, P, hi, er, w, l⟩
  exact l.ex .mal σ H env (.ref C) none er .refl ⟨hC, rfl⟩ w
theorem s_rexc {k : EK} {e : E} {v : Expr} {p p3 pos : Pos} (S : Sok G gi X W) (hr : G.tb.ri k = true) (h3 : 3 ≤ G.k) (hg : Gl X (ekName k)) (h : PE X v (tE G X W e)) (hs : ∀ e q, v ≠ .Starred e q) :
    PS X (.Raise (some (.Call (.Name (ekName k) p) [v] [] p3)) none pos) (tS G X W (.rexc k e)) := by
  obtain ⟨C, fI, fd, nm, qual, y, params, body, scope, hC, T, iC, tI, F, hb, FS, hno, hbody⟩ := S.ini k hr
  have FN : FnOk X.prog X.w X.K X.mg X.base (L2.CX X.prog X.w) 1 fI fd (iniN y) (spIni X.K (ekField k)) := ini_fn F FS hbody
  refine (ps_raise S.calm S.tk (pmk_oex T iC tI FN (S.room 2 (by omega)) hb .nil passL hg hC (pa_cons h pa_nil (star_ok hs _ _)) (by cases k <;> decide) (star_ok hs _ _) rfl)).imp ?_
  rintro D σ H ⟨Z, H0, io, env, P, hi, er, w, l⟩
  unfold wS at w
  refine ⟨Z, H0, io, env, _, _, hi, er, l.lk, w, fun d env1 u H1 er1 m1 r1 _ w1 => ?_⟩
  refine ⟨by show 1 ≤ 1000; decide, fun a ha => ⟨a, C, u, rfl, T, upd_same, hno, fun dx hdx hne => ⟨rfl, dx, [(ekField k, u)], upd_same, ?_, ?_, ?_⟩⟩⟩
  · rw [upd_ne hne]
    exact upd_same
  · rw [upd_ne hne] at hdx
    exact hdx
  · have hdx1 : H1 dx = none := by
      rw [upd_ne hne] at hdx
      exact hdx
    generalize hH : upd (del (upd (upd (upd H1 a (exo a C none)) dx (exd dx [(ekField k, u)])) a (exo a C (some dx))) a) dx (.xd [(ekField k, u)]) = H2
    have h2 : H2 dx = some (.xd [(ekField k, u)]) := by
      rw [← hH]
      exact upd_same
    have same : Same H1 H2 := fun b o hb' => by
      have n1 : b ≠ dx := fun z => by rw [z, hdx1] at hb'; cases hb'
      have n2 : b ≠ a := fun z => by rw [z, ha] at hb'; cases hb'
      rw [← hH, upd_ne n1, del_ne n2, upd_ne n2, upd_ne n1, upd_ne n2]
      exact hb'
    have er2 := er1.grow same
    have m2 := m1.trans (mono_grow (σ := σ) (env := env1) same)
    cases k with
    | mal => exact w1.elim
    | ref =>
      cases d with
      | str r =>
        cases r1
        exact l.ex (.ref r) σ H2 env1 (.ref C) (some dx) er2 m2 ⟨hC, dx, _, rfl, h2, rfl⟩ w1
      | _ => exact w1.elim
    | nt =>
      cases d with
      | int r =>
        cases r1
        exact l.ex (.nt r) σ H2 env1 (.ref C) (some dx) er2 m2 ⟨hC, dx, _, rfl, h2, rfl⟩ w1
      | _ => exact w1.elim
theorem s_app {i : Nat} {e : E} {x : Str} {v : Expr} {p ap cp pos : Pos} (hN : X.N[i]? = some x) (hx : visC X.env.scope x = true) (h : PE X v (tE G X W e)) (hs : ∀ e q, v ≠ .Starred e q) (hl : (ap.endLine == cp.line) = true) :
    PS X (.Expr (.Call (.Attribute (.Name x p) "append" ap) [v] [] cp) pos) (tS G X W (.app i e)) := by
  obtain ⟨h1, h2, h3⟩ := visC_ok hx
  have pe : PE X (.Call (.Attribute (.Name x p) "append" ap) [v] [] cp) _ := pe_bm PySem.F.plainAttrs_list PySem.F.slot_list_append PySem.F.type_list_append mt_append (pe_var hN h1 h2 h3) (pa_cons h pa_nil (star_ok hs _ _)) rfl
    (by rw [star_ok hs]; rfl) hl (star_ok hs _ _) rfl
  refine (ps_expr pe rfl).imp ?_
  rintro D σ H ⟨Z, H0, io, env, P, hi, er, w, l⟩
  unfold wS at w
  obtain ⟨ho, w⟩ := w
  cases hc : at_ env i with
  | own d =>
    rw [hc] at ho
    cases d with
    | lst xs =>
      obtain ⟨a, e1, ro⟩ := er.own i _ (at_some hc (by intro z; cases z))
      cases ro with
      | lst hH hr =>
        refine ⟨.ref a, e1, .inl ⟨rfl, _, .of hH⟩, Z, H0, io, env, _, _, hi, er, l.lk, w, fun y env1 u H1 er1 m1 r1 _ w1 => ?_⟩
        cases hc1 : at_ env1 i with
        | own d1 =>
          rw [hc1] at w1
          cases d1 with
          | lst ys =>
            have hcell := at_some hc1 (by intro z; cases z)
            obtain ⟨b, e2, ro1⟩ := er1.own i _ hcell
            rw [e1] at e2; cases e2
            cases ro1 with
            | lst hH1 hr1 =>
              obtain ⟨hlen, w1⟩ := w1
              rename_i us
              refine ⟨a, us, u, rfl, rfl, hH1, by rw [hr1.length]; exact hlen, ?_⟩
              have hsee : Same (hid Z σ env1 H1) (hid Z σ env1 (upd H1 a (.lst (us ++ [u])))) := fun b o hb => by
                obtain ⟨a1, a2, a3⟩ := hid_some hb
                refine hid_of a1 a2 ?_
                rw [upd_ne fun z => a2 (by rw [z]; exact ⟨i, _, hcell, e1⟩)]
                exact a3
              obtain ⟨er2, m2⟩ := er1.change (d' := .lst (ys ++ [y])) (H' := upd H1 a (.lst (us ++ [u]))) hcell e1 (fun b o hb ho => by rw [upd_ne hb]; exact ho) (.lst upd_same ((hr1.mono hsee).append (.cons (r1.mono hsee) .nil)))
              exact l.nx σ _ _ er2 (m1.trans m2) w1
          | _ => exact w1.elim
        | emp => rw [hc1] at w1; exact w1.elim
        | val d => rw [hc1] at w1; exact w1.elim
    | _ => cases ho
  | emp => rw [hc] at ho; cases ho
  | val d => rw [hc] at ho; cases ho
theorem s_seti {i : Nat} {a e : E} {x : Str} {k v : Expr} {p p2 pos : Pos} (hN : X.N[i]? = some x) (hx : visC X.env.scope x = true) (hk : PE X k (tE G X W a)) (h : PE X v (tE G X W e)) (ha : ∀ v, assign (.Subscript (.Name x p) k p2) X.env v = (do
      let ov ← holding [v] (eval (.Name x p) X.env)
      let iv ← holding [v, ov] (eval k X.env)
      standAt p2
      holding [v, ov, iv] (setItem ov iv v)
      release [v, ov, iv] [])) : PS X (.Assign [.Subscript (.Name x p) k p2] v pos) (tS G X W (.seti i a e)) := by
  obtain ⟨h1, h2, h3⟩ := visC_ok hx
  refine (ps_asg h (pg_sub (pe_var hN h1 h2 h3) hk set_list ha) (swap_other (t := .Subscript (.Name x p) k p2) (by intro x q z; cases z) pos.line X.env) (by cases v <;> rfl) rfl).imp ?_
  rintro D σ H ⟨Z, H0, io, env, P, hi, er, w, l⟩
  unfold wS at w
  refine ⟨Z, H0, io, env, _, _, hi, er, l.lk, w, fun y env1 u H1 er1 m1 r1 _ w1 => ?_⟩
  obtain ⟨ho, w1⟩ := w1
  cases hc : at_ env1 i with
  | own d =>
    obtain ⟨b, e1, _⟩ := er1.own i _ (at_some hc (by intro z; cases z))
    refine ⟨.ref b, e1, Z, H0, io, env1, _, _, hi, er1, (l.step m1).lk, w1, fun j env2 ju H2 er2 m2 r2 _ w2 => ?_⟩
    cases hc2 : at_ env2 i with
    | own d2 =>
      rw [hc2] at w2
      cases d2 with
      | lst ys =>
        cases j with
        | int kk =>
          obtain ⟨n, hn, w2⟩ := w2
          cases r2
          have hcell := at_some hc2 (by intro z; cases z)
          obtain ⟨b', e2, ro⟩ := er2.own i _ hcell
          rw [e1] at e2; cases e2
          cases ro with
          | lst hH hr =>
            rename_i us
            refine ⟨b, us, kk, n, rfl, rfl, hH, by rw [hr.length]; exact hn, ?_⟩
            have hsee : Same (hid Z σ env2 H2) (hid Z σ env2 (upd H2 b (.lst (us.set n u)))) := fun c o hb => by
              obtain ⟨a1, a2, a3⟩ := hid_some hb
              refine hid_of a1 a2 ?_
              rw [upd_ne fun z => a2 (by rw [z]; exact ⟨i, _, hcell, e1⟩)]
              exact a3
            obtain ⟨er3, m3⟩ := er2.change (d' := .lst (ys.set n y)) (H' := upd H2 b (.lst (us.set n u))) hcell e1 (fun b o hb ho => by rw [upd_ne hb]; exact ho) (.lst upd_same ((hr.mono hsee).set ((r1.mono m2.see).mono hsee) n))
            exact l.nx σ _ _ er3 ((m1.trans m2).trans m3) w2
        | _ => exact w2.elim
      | _ => exact w2.elim
    | emp => rw [hc2] at w2; exact w2.elim
    | val d => rw [hc2] at w2; exact w2.elim
  | emp => rw [hc] at ho; cases ho
  | val d => rw [hc] at ho; cases ho
end
end Pd

/-! Soundness of statements: several names at once. -/
namespace Pd
open L2 PyProof.Rows PySem.Spec PySem

def Zl (Z : Addr → Prop) (ps : List Addr) : Addr → Prop := fun b => Z b ∨ b ∈ ps
theorem Zl_nil (Z : Addr → Prop) : Zl Z [] = Z := by
  funext b
  simp [Zl]
theorem Zl_cons (Z : Addr → Prop) (p : Addr) (ps : List Addr) : Zl (zx Z p) ps = Zl Z (p :: ps) := by
  funext b
  simp [Zl, zx, or_assoc]
theorem Zl_cons' (Z : Addr → Prop) (p : Addr) (ps : List Addr) : Zl Z (p :: ps) = zx (Zl Z ps) p := by
  funext b
  simp only [Zl, zx, List.mem_cons, eq_iff_iff]
  constructor
  · rintro (h | h | h)
    · exact .inl (.inl h)
    · exact .inr h
    · exact .inl (.inr h)
  · rintro ((h | h) | h)
    · exact .inl h
    · exact .inr (.inr h)
    · exact .inr (.inl h)
/-- values with what their locals will be; ps: the new lists, that nothing refers to -/
inductive CsR (R : RC) (H0 Hs : Hp) (io : Option (Nat × Addr)) (Hh H : Hp) (Z : Addr → Prop) : List V → List Cl → List Addr → Prop
  | nil : CsR R H0 Hs io Hh H Z [] [] []
  | val {v : V} {d : D} {vs : List V} {cs : List Cl} {ps : List Addr} : Rep R Hh v d → CsR R H0 Hs io Hh H Z vs cs ps → CsR R H0 Hs io Hh H Z (v :: vs) (.val d :: cs) ps
  | own {p : Addr} {d : D} {vs : List V} {cs : List Cl} {ps : List Addr} : RepO R H Hh p d → H0 p = none → Hs p = none → (∀ k, io ≠ some (k, p)) → ¬ Z p → p ∉ ps → CsR R H0 Hs io Hh H Z vs cs ps →
      CsR R H0 Hs io Hh H Z (.ref p :: vs) (.own d :: cs) (p :: ps)
section
variable {R : RC} {H0 Hs Hs' : Hp} {io : Option (Nat × Addr)} {Hh Hh' H H' : Hp} {Z Z' : Addr → Prop}
theorem CsR.imp (hh : Same Hh Hh') (hk : ∀ p, ¬ Z p → (∃ o, H p = some o) → H' p = H p) (hs : ∀ p, Hs p = none → Hs' p = none) (hz : ∀ b, Z' b → Z b) : ∀ {vs : List V} {cs : List Cl} {ps : List Addr}, CsR R H0 Hs io Hh H Z vs cs ps → CsR R H0 Hs' io Hh' H' Z' vs cs ps
  | _, _, _, .nil => .nil
  | _, _, _, .val r t => .val (r.mono hh) (CsR.imp hh hk hs hz t)
  | _, _, _, .own r a b c d e t => .own (r.mono (hk _ d r.some) hh) a (hs _ b) c (fun z => d (hz _ z)) e (CsR.imp hh hk hs hz t)
theorem CsR.nz : ∀ {vs : List V} {cs : List Cl} {ps : List Addr}, CsR R H0 Hs io Hh H Z vs cs ps → ∀ p ∈ ps, ¬ Z p ∧ Hs p = none
  | _, _, _, .nil, _, h => by cases h
  | _, _, _, .val _ t, p, h => CsR.nz t p h
  | _, _, _, .own _ _ b _ d _ t, p, h => by
    rcases List.mem_cons.mp h with rfl | h
    · exact ⟨d, b⟩
    · exact CsR.nz t p h
theorem CsR.len : ∀ {vs : List V} {cs : List Cl} {ps : List Addr}, CsR R H0 Hs io Hh H Z vs cs ps → vs.length = cs.length
  | _, _, _, .nil => rfl
  | _, _, _, .val _ t => congrArg (· + 1) t.len
  | _, _, _, .own _ _ _ _ _ _ t => congrArg (· + 1) t.len
end
theorem Lk.hide {R : RC} {Z : Addr → Prop} {H0 : Hp} {io : Option (Nat × Addr)} {W : WX} {σ : Sg} {H : Hp} {env : Loca} {Xd : Xq} {p : Addr} (l : Lk R Z H0 io W σ H env Xd) : Lk R (zx Z p) H0 io W σ H env Xd :=
  fun x env' c dd H' r m h k => l x env' c dd H' r.unhide m h k
section
variable {R : RC} {H0 Hs : Hp} {io : Option (Nat × Addr)} {Z : Addr → Prop}
/-- the locals are stored -/
theorem ER.putCs : ∀ {vs : List V} {cs : List Cl} {ps : List Addr} {is : List Nat} {σ : Sg} {H : Hp} {env : Loca} {σs : Sg} {envs : Loca}, ER R (Zl Z ps) H0 io σ H env → Mono σs Hs envs σ H env → CsR R H0 Hs io (hid (Zl Z ps) σ env H) H Z vs cs ps → vs.length = is.length →
    (∀ i ∈ is, ∀ a, io ≠ some (i, a)) → ER R Z H0 io (setAll σ is vs) H (Pd.putCs env is cs) ∧ Mono σs Hs envs (setAll σ is vs) H (Pd.putCs env is cs) := by
  intro vs
  induction vs with
  | nil =>
    intro cs ps is σ H env σs envs r m cr hl hi
    cases cr
    cases is with
    | nil => exact ⟨by rw [Zl_nil] at r; exact r, m⟩
    | cons => cases hl
  | cons v vs ih =>
    intro cs ps is σ H env σs envs r m cr hl hi
    cases is with
    | nil => cases hl
    | cons i is =>
      have hi' : ∀ j ∈ is, ∀ a, io ≠ some (j, a) := fun j hj => hi j (List.mem_cons_of_mem _ hj)
      cases cr with
      | val q t =>
        obtain ⟨r1, m1⟩ := r.put q (hi i List.mem_cons_self)
        exact ih (is := is) r1 (m.trans m1) (t.imp m1.see (fun _ _ _ => rfl) (fun _ h => h) fun _ h => h) (Nat.succ.inj hl) hi'
      | own q a b c d e t =>
        rename_i p dd cs ps
        rw [Zl_cons'] at r q t
        have r1 := r.putHid (fun z => z.elim d e) a c (hi i List.mem_cons_self) q
        have m1 := m.putHid (i := i) (d := dd) b
        have hsee : Same (hid (zx (Zl Z ps) p) σ env H) (hid (Zl Z ps) (σ.set i (some (.ref p))) (Pd.put env i (.own dd)) H) := fun b o hb => by
          obtain ⟨a1, a2, a3⟩ := hid_some hb
          refine hid_of (fun z => a1 (.inl z)) (fun ⟨j, f, q1, q2⟩ => ?_) a3
          rw [put_eq] at q1
          rcases set_at q2 with ⟨_, z, _⟩ | ⟨z, q2⟩
          · cases z
            exact a1 (.inr rfl)
          · rw [List.getElem?_set_ne z] at q1
            exact a2 ⟨j, f, q1, q2⟩
        exact ih (is := is) r1 m1 (t.imp hsee (fun _ _ _ => rfl) (fun _ h => h) fun _ h => h) (Nat.succ.inj hl) hi'
end
section
variable {G : Gx} {gi : Str → Option Int} {X : Cx} {W : WX}
def tCs (G : Gx) (X : Cx) (W : WX) (e : E) : TA := fun σ H Q => ∃ (Z : Addr → Prop) (H0 : Hp) (io : Option (Nat × Addr)) (env : Loca) (Qd : List Cl → Loca → Prop) (Xd : Xq),
  G.iop = io.map (·.1) ∧ ER (rcOf G X) Z H0 io σ H env ∧ Lk (rcOf G X) Z H0 io W σ H env Xd ∧ wCs G e env Qd Xd ∧
  ∀ cs env' vs H' ps, ER (rcOf G X) (Zl Z ps) H0 io σ H' env' → Mono σ H env σ H' env' → CsR (rcOf G X) H0 H io (hid (Zl Z ps) σ env' H') H' Z vs cs ps → vs.length = lnE e → Qd cs env' → Q vs H'
theorem s_cs : ∀ {es : E} {ps : List Expr}, Cok G gi X W → mA (mxOf G gi X) es X.env.scope ps = true → PA X ps (tCs G X W es) := by
  intro es
  induction es with
  | nil =>
    intro ps C h
    cases ps with
    | nil =>
      refine pa_nil.imp ?_
      rintro σ H Q ⟨Z, H0, io, env, Qd, Xd, hio, er, lk, w, fin⟩
      exact fin [] env [] H [] (by rw [Zl_nil]; exact er) .refl .nil rfl w
    | cons => simp [mA] at h
  | cons e es _ ih =>
    intro ps C h
    cases ps with
    | nil => simp [mA] at h
    | cons p ps =>
      simp only [mA, Bool.and_eq_true] at h
      refine (pa_cons ((snd e).ex X W p C h.1) (ih C h.2) (star_ok (not_star h.1) _ _)).imp ?_
      rintro σ H Q ⟨Z, H0, io, env, Qd, Xd, hio, er, lk, w, fin⟩
      unfold wCs at w
      refine ⟨Z, H0, io, env, _, Xd, hio, er, lk, w, fun d env1 v1 H1 er1 m1 r1 f1 w1 => ?_⟩
      by_cases hb : (frE G.tb e && isMut d) = true
      · have hb' := hb
        simp only [Bool.and_eq_true] at hb'
        obtain ⟨q, rfl, fi⟩ := f1 hb'.1 hb'.2
        refine ⟨zx Z q, H0, io, env1, _, Xd, hio, fi.er, (lk.step m1).hide, w1, fun cs env2 vs H2 ps er2 m2 cr lq k => ?_⟩
        have hcell : cellOf G.tb e d = .own d := by unfold cellOf; rw [if_pos hb]
        rw [hcell] at k
        have nown : ¬ Own σ env1 q := fun z => let ⟨k, e⟩ := fi.er.zown q z (.inr rfl); fi.nio k e
        obtain ⟨o, ho⟩ := fi.cont.some
        have hq2 : H2 q = H1 q := (m2.keep q o ho nown).trans ho.symm
        have hsee : Same (hid (zx Z q) σ env1 H1) (hid (Zl (zx Z q) ps) σ env2 H2) := fun b u hb => by
          obtain ⟨a1, a2, a3⟩ := hid_some (m2.see b u hb)
          refine hid_of (fun z => z.elim a1 fun z => ?_) a2 a3
          have := (cr.nz b z).2
          obtain ⟨_, _, a6⟩ := hid_some hb
          rw [this] at a6; cases a6
        have cr' : CsR (rcOf G X) H0 H io (hid (Zl (zx Z q) ps) σ env2 H2) H2 Z vs cs ps := cr.imp (.refl _) (fun _ _ _ => rfl) (fun _ h => m1.free h) fun _ h => .inl h
        refine fin (.own d :: cs) env2 (.ref q :: vs) H2 (q :: ps) (by rw [← Zl_cons]; exact er2) (m1.trans m2) ?_ (congrArg (· + 1) lq) k
        rw [← Zl_cons]
        exact .own (fi.cont.mono hq2 hsee) fi.h0 fi.hs fi.nio fi.nz (fun z => (cr.nz q z).1 (.inr rfl)) cr'
      · refine ⟨Z, H0, io, env1, _, Xd, hio, er1, lk.step m1, w1, fun cs env2 vs H2 ps er2 m2 cr lq k => ?_⟩
        have hcell : cellOf G.tb e d = .val d := by unfold cellOf; rw [if_neg hb]
        rw [hcell] at k
        have hsee : Same (hid Z σ env1 H1) (hid (Zl Z ps) σ env2 H2) := fun b u hb => by
          obtain ⟨a1, a2, a3⟩ := hid_some (m2.see b u hb)
          refine hid_of (fun z => z.elim a1 fun z => ?_) a2 a3
          have := (cr.nz b z).2
          obtain ⟨_, _, a6⟩ := hid_some hb
          rw [this] at a6; cases a6
        exact fin (.val d :: cs) env2 (v1 :: vs) H2 ps er2 (m1.trans m2) (.val (r1.mono hsee) (cr.imp (.refl _) (fun _ _ _ => rfl) (fun _ h => m1.free h) fun _ h => h)) (congrArg (· + 1) lq) k
  | _ => intro ps C h; simp [mA] at h
/-- the end of a store of several names -/
theorem par_end {is : List Nat} {es : E} {D : Ends} {σ : Sg} {H : Hp} {Q : List V → Hp → Prop} (h : tS G X W (.par is es) D σ H) (hQ : ∀ vs H', vs.length = lnE es → (vs.length = is.length → D.nx (setAll σ is vs) H') → Q vs H') : tCs G X W es σ H Q := by
  obtain ⟨Z, H0, io, env, P, hi, er, w, l⟩ := h
  unfold wS at w
  refine ⟨Z, H0, io, env, _, _, hi, er, l.lk, w, fun cs env' vs H' ps r m cr lq k => hQ vs H' lq fun hl => ?_⟩
  obtain ⟨h1, k⟩ := k
  obtain ⟨r1, m1⟩ := r.putCs m cr hl fun i h => ne_io hi (h1 i h)
  exact l.nx _ H' _ r1 m1 k
end
end Pd

/-! Soundness of statements: all of them but try. -/
namespace Pd
open L2 PyProof.Rows PySem.Spec PySem

theorem swapC_ok {env : Env} (hk : env.scope.kind = .function) {ts vs : List Expr} {k k2 : Nat} {p p2 : Pos} {r : Option (List Str)} (h : swapC env.scope ts vs = some r) : swappedStores [.Tuple ts k p] (.Tuple vs k2 p2) env = pure r := by
  have hb : (env.blockKind != .function) = false := by
    unfold Env.blockKind
    rw [hk]; rfl
  unfold swapC at h
  unfold swappedStores
  dsimp only
  rw [hb, Bool.or_false]
  split at h
  · rename_i c1
    cases h
    rw [if_pos c1]
  · rename_i c1
    rw [if_neg c1]
    split at h
    · cases h
    · rename_i c2
      have e1 : ∀ f : Expr → Bool, (∀ x, f x = starC x) → vs.any f = vs.any starC := fun f h => by rw [show f = starC from funext h]
      have e2 : ∀ f : Expr → Option Str, (∀ x, f x = slotName env.scope (headLine ts) x) → ts.filterMap f = ts.filterMap (slotName env.scope (headLine ts)) := fun f h => by rw [show f = slotName env.scope (headLine ts) from funext h]
      rw [e1 _ (by intro x; cases x <;> rfl), e2 _ (by intro x; cases x <;> rfl)]
      rw [if_neg c2]
      split at h
      · rename_i c3
        cases h
        rw [if_pos c3]
      · rename_i c3
        rw [if_neg c3]
        split at h
        · rename_i c4
          cases h
          rw [if_pos c4]
        · rename_i c4
          rw [if_neg c4]
          split at h
          · cases h
          · rename_i c5
            cases h
            rw [if_neg c5]
section
variable {G : Gx} {gi : Str → Option Int} {X : Cx} {W : WX}
theorem CsR.grow {R : RC} {H0 Hs : Hp} {io : Option (Nat × Addr)} {Hh Hh' H H' : Hp} {Z : Addr → Prop} {vs : List V} {cs : List Cl} {ps : List Addr} (c : CsR R H0 Hs io Hh H Z vs cs ps) (e : Same H H') (hh : Same Hh Hh') : CsR R H0 Hs io Hh' H' Z vs cs ps :=
  c.imp hh (fun p _ ⟨o, ho⟩ => (e _ _ ho).trans ho.symm) (fun _ h => h) fun _ h => h
theorem mNames_len {N : List Str} {sc : Scope} : ∀ {is : List Nat} {es : List Expr}, mNames N sc is es = true → is.length = es.length
  | [], [], _ => rfl
  | i :: is, .Name x p :: es, h => by
    simp only [mNames, Bool.and_eq_true] at h
    exact congrArg (· + 1) (mNames_len h.2)
  | [], _ :: _, h => by simp [mNames] at h
  | _ :: _, [], h => by simp [mNames] at h
theorem mNames_cons {N : List Str} {sc : Scope} {i : Nat} {is : List Nat} {e : Expr} {es : List Expr} (h : mNames N sc (i :: is) (e :: es) = true) : ∃ x p, e = .Name x p ∧ N[i]? = some x ∧ locC sc x = true ∧ mNames N sc is es = true := by
  cases e with
  | Name x p =>
    simp only [mNames, Bool.and_eq_true, decide_eq_true_eq] at h
    exact ⟨x, p, rfl, h.1.1, h.1.2, h.2⟩
  | _ => simp [mNames] at h
theorem s_parG {is : List Nat} {es : E} {ts vs : List Expr} {k k2 : Nat} {p p2 pos : Pos} (S : Sok G gi X W) (hm : mNames X.N X.env.scope is ts = true) (h : mA (mxOf G gi X) es X.env.scope vs = true) (hl : vs.length ≤ 1000) (hlt : ts.length = vs.length)
    (hw : swappedStores [.Tuple ts k p] (.Tuple vs k2 p2) X.env = pure none) : PS X (.Assign [.Tuple ts k p] (.Tuple vs k2 p2) pos) (tS G X W (.par is es)) := by
  have St : Stor X X.N X.env.scope := ⟨rfl, fun x hx => ⟨locC_ok hx, .inl (S.fnt x)⟩⟩
  obtain ⟨g, g1, g2⟩ := pgs_names St S.nd hm
  refine (ps_asg (pe_tup (s_cs S.toCok h)) (pg_tup S.calm g g1 g2) rfl hw rfl).imp ?_
  rintro D σ H ⟨Z, H0, io, env, P, hi, er, w, l⟩
  unfold wS at w
  have hln := (mA_len _ _ h).1
  have hlm := mNames_len hm
  refine ⟨Z, H0, io, env, _, _, hi, er, l.lk, w, fun cs env' us H' ps r m cr lq q => ?_⟩
  obtain ⟨h1, q⟩ := q
  have hul : us.length = is.length := by omega
  refine ⟨line1000 (by omega), fun t ht => ⟨t, us, rfl, .of upd_same, hul, hul, ?_⟩⟩
  have e1 : Same H' (upd H' t (.tup us)) := same_new ht
  obtain ⟨r1, m1⟩ := (r.grow e1).putCs (m.trans (mono_grow e1)) (cr.grow e1 (see_grow e1)) hul fun i h => ne_io hi (h1 i h)
  exact l.nx _ _ _ r1 m1 q
theorem loc_of {sc : Scope} {x : Str} (h : isLocC sc x = true) : sc.names.lookup x = some .local := by
  unfold isLocC at h
  split at h
  · assumption
  · cases h
theorem slot_names {sc : Scope} {l : Nat} : ∀ {ts : List Expr} {names : List Str}, ts.filterMap (slotName sc l) = names → names.length = ts.length → names = ts.map fun t => match t with
    | .Name x _ => x
    | _ => "" := fun {ts} => by
  induction ts with
  | nil => intro names h _; subst h; rfl
  | cons t ts ih =>
    intro names h hl
    have hle : (ts.filterMap (slotName sc l)).length ≤ ts.length := List.length_filterMap_le _ _
    rw [List.filterMap_cons] at h
    cases hs : slotName sc l t with
    | none =>
      rw [hs] at h
      dsimp only at h
      rw [← h] at hl
      simp only [List.length_cons] at hl
      omega
    | some x =>
      rw [hs] at h
      dsimp only at h
      subst h
      simp only [List.length_cons] at hl
      have := ih rfl (by omega)
      rw [List.map_cons, this]
      cases t with
      | Name y p =>
        simp only [slotName] at hs
        by_cases c : (List.lookup y sc.names == some NameKind.local && p.line == l) = true
        · rw [if_pos c] at hs
          exact congrArg (· :: _) (Option.some.inj hs).symm
        · rw [if_neg c] at hs
          cases hs
      | _ => simp [slotName] at hs
theorem s_par {is : List Nat} {es : E} {ts vs : List Expr} {k k2 : Nat} {p p2 pos : Pos} (S : Sok G gi X W) (hm : mNames X.N X.env.scope is ts = true) (h : mA (mxOf G gi X) es X.env.scope vs = true) (hl : vs.length ≤ 1000) (hlt : ts.length = vs.length) (hnd : is.Nodup)
    (hp : mPar X.env.scope ts vs = true) : PS X (.Assign [.Tuple ts k p] (.Tuple vs k2 p2) pos) (tS G X W (.par is es)) := by
  unfold mPar at hp
  simp only [Bool.and_eq_true] at hp
  obtain ⟨hk, hp⟩ := hp
  have hk : X.env.scope.kind = .function := by
    split at hk
    · assumption
    · cases hk
  split at hp
  · rename_i hs
    exact s_parG S hm h hl hlt (swapC_ok hk hs)
  · rename_i names hs
    have hw := swapC_ok (k := k) (p := p) (k2 := k2) (p2 := p2) hk hs
    have hn : names = ts.filterMap (slotName X.env.scope (headLine ts)) ∧ names.length = ts.length ∧ (ts.length = 2 ∨ ts.length = 3) := by
      unfold swapC at hs
      split at hs
      · cases hs
      · rename_i c1
        split at hs
        · cases hs
        · split at hs
          · cases hs
          · rename_i c3
            split at hs
            · cases hs
            · split at hs
              · cases hs
              · cases hs
                refine ⟨rfl, ?_, ?_⟩
                · simp only [Bool.or_eq_true, bne_iff_ne, ne_eq, not_or, Decidable.not_not] at c3
                  exact c3.1
                · simp only [Bool.or_eq_true, Bool.not_eq_true', Bool.or_eq_false_iff, beq_eq_false_iff_ne, bne_iff_ne, ne_eq, not_or, not_and, Decidable.not_not] at c1
                  omega
    have hnm := slot_names hn.1.symm hn.2.1
    have hlm := mNames_len hm
    have hln := (mA_len _ _ h).1
    rw [hnm] at hw
    rcases hn.2.2 with h2 | h3
    · match ts, vs, is, hm, h, hlt, h2, hp, hnd, hw with
      | [t1, t2], [v1, v2], [i, j], hm, h, _, _, hp, hnd, hw =>
        obtain ⟨x, px, rfl, hx, _, hm⟩ := mNames_cons hm
        obtain ⟨y, py, rfl, hy, _, _⟩ := mNames_cons hm
        simp only [List.all_cons, List.all_nil, Bool.and_true, Bool.and_eq_true] at hp
        have hij : i ≠ j := by
          intro e
          subst e
          simp at hnd
        refine (ps_par S.calm S.nd hx hy hij (loc_of hp.1) (loc_of hp.2) (s_cs S.toCok h) hw rfl).imp fun D σ H w => par_end w fun us H' lq q => ?_
        match us, lq, q with
        | [a, b], _, q => exact ⟨a, b, rfl, q rfl⟩
        | [], lq, _ => simp only [List.length_nil, List.length_cons] at lq hln; omega
        | [_], lq, _ => simp only [List.length_nil, List.length_cons] at lq hln; omega
        | _ :: _ :: _ :: _, lq, _ => simp only [List.length_nil, List.length_cons] at lq hln; omega
    · match ts, vs, is, hm, h, hlt, h3, hp, hnd, hw with
      | [t1, t2, t3], [v1, v2, v3], [i, j, l], hm, h, _, _, hp, hnd, hw =>
        obtain ⟨x, px, rfl, hx, _, hm⟩ := mNames_cons hm
        obtain ⟨y, py, rfl, hy, _, hm⟩ := mNames_cons hm
        obtain ⟨z, pz, rfl, hz, _, _⟩ := mNames_cons hm
        simp only [List.all_cons, List.all_nil, Bool.and_true, Bool.and_eq_true] at hp
        simp only [List.nodup_cons, List.mem_cons, List.not_mem_nil, or_false, not_or] at hnd
        refine (ps_par3 S.calm S.nd hx hy hz hnd.1.1 hnd.1.2 hnd.2.1 (loc_of hp.1) (loc_of hp.2.1) (loc_of hp.2.2) (s_cs S.toCok h) hw rfl).imp fun D σ H w => par_end w fun us H' lq q => ?_
        match us, lq, q with
        | [a, b, c], _, q => exact ⟨a, b, c, rfl, q rfl⟩
        | [], lq, _ => simp only [List.length_nil, List.length_cons] at lq hln; omega
        | [_], lq, _ => simp only [List.length_nil, List.length_cons] at lq hln; omega
        | [_, _], lq, _ => simp only [List.length_nil, List.length_cons] at lq hln; omega
        | _ :: _ :: _ :: _ :: _, lq, _ => simp only [List.length_nil, List.length_cons] at lq hln; omega
  · cases hp
end
end Pd

/-! try, with several except clauses, with names or without. -/
namespace Pd
open L2 PyProof.Rows PySem.Spec PySem

/-- a clause: its class, its name's slot, its suite's reading -/
structure Hd where
  c : Value
  sl : Option Nat
  ts : Addr → Value → Option Addr → TS
def offE (D : Ends) : Option Nat → Ends
  | none => D
  | some i => ⟨fun τ G => D.nx (τ.set i none) G, D.rt, fun τ G => D.bk (τ.set i none) G, fun τ G => D.ct (τ.set i none) G⟩
def onS (σ : Sg) (a : Addr) : Option Nat → Sg
  | none => σ
  | some i => σ.set i (some (.ref a))
def wX (K : PySem.W.Frag) (Wo : WX) (D : Ends) : List Hd → WX
  | [] => Wo
  | h :: r => fun cls d σ H => ∃ b, PySem.W.exmOne K cls h.c = some b ∧ (b = true → ∀ a, H a = none → h.ts a cls d (offE D h.sl) (onS σ a h.sl) H) ∧ (b = false → wX K Wo D r cls d σ H)
abbrev SuiteOk (X : Cx) (su : List Stmt) (ts : Addr → Value → Option Addr → TS) : Prop :=
  ∀ (a : Addr) (oe : Obj) (cls : Value) (d : Option Addr) (pn : List (Addr × Obj)), Zc cls d oe → (∃ vs, oe.data = .fields vs) → PSs (X.suite a ((a, oe) :: pn)) su (ts a cls d)
inductive HdX (X : Cx) : List ExceptHandler → List Hd → Prop
  | nil : HdX X [] []
  | plain {x : Str} {c : Value} {ts : Addr → Value → Option Addr → TS} {b0 : Stmt} {su : List Stmt} {np q : Pos} {hs : List ExceptHandler} {l : List Hd} : Names X x c → SuiteOk X (b0 :: su) ts → HdX X hs l →
      HdX X (.ExceptHandler (some (.Name x np)) none (b0 :: su) q :: hs) (⟨c, none, ts⟩ :: l)
  | named {x n : Str} {i : Nat} {c : Value} {ts : Addr → Value → Option Addr → TS} {b0 : Stmt} {su : List Stmt} {np q : Pos} {hs : List ExceptHandler} {l : List Hd} : Names X x c → X.N[i]? = some n → X.env.kindOf n = some .local → SuiteOk X (b0 :: su) ts → HdX X hs l →
      HdX X (.ExceptHandler (some (.Name x np)) (some n) (b0 :: su) q :: hs) (⟨c, some i, ts⟩ :: l)
section
variable {X : Cx} {body : List Stmt} {h0 : ExceptHandler} {hs : List ExceptHandler} {l : List Hd} {pos : Pos} {tb : WX → TS} {Wo : WX}
theorem ps_tryX (st : X.stack = X.env :: X.outer) (fr : X.env.frame = some X.env.locals) (hN : X.N.Nodup) (tk : Takes X Wo)
    (hb : ∀ (W : WX) (pn : List (Addr × Obj)) (xe : Value → Shared → Prop), Takes (X.tr pn xe) W → PassesOwn (model X.prog X.w) X.A X.env xe → PSs (X.tr pn xe) body (tb W)) (hh : HdX X (h0 :: hs) l) :
    PS X (.Try body (h0 :: hs) [] [] pos) (fun D σ H => tb (wX X.K Wo D l) D σ H) := by
  refine ⟨fun pins s σ H D I w0 => ?_⟩
  have ok := I.ok
  have afr : X.A.frames = some (X.env :: X.outer) := ok.frames.trans (congrArg some st)
  have back : ∀ {f : Flow} {s1 : Shared} {pn : List (Addr × Obj)} {xe : Value → Shared → Prop}, SP (X.tr (X.pn ++ pins) xe) pn D f s1 → SP X pins D f s1 := fun {f s1 pn xe} z => by
    cases f <;> first
      | exact let ⟨a, b, c, q⟩ := z; ⟨a, b, c.ofTry ok, q⟩
      | exact let ⟨a, b, c, e, r, q⟩ := z; ⟨a, b, c, e.ofTry ok, r, q⟩
  refine wpAny_Try_except (wpAny_mono ((hb (wX X.K Wo D l) (X.pn ++ pins) _ (fun u s' air => ?_) PassesOwn.looking).run [] s σ H D (I.toTry _) w0) (fun f s1 z => ?_) fun _ _ z => z)
  rotate_left
  · have z' := back z
    cases f <;> first | exact wpAny_execs_nil z' | exact z'
  · obtain ⟨a, B, sI, pins', τ, G, cls, d, rfl, J0, nb, up, sky, na, hos, bare, w⟩ := air
    have J : Inv X pins τ G sI := J0.ofTry ok
    rw [show X.stack = X.env :: X.outer from st] at sky
    refine Sky.land (env := X.env) (outer := X.outer) Zc.steady afr fr sky fun h3 fl3 up3 => ?_
    have J3 : Inv X pins τ G { s' with heap := h3 } := J.landed nb fl3.1 (up.trans up3) hos bare
    obtain ⟨o3, v3, g3, z3, d3⟩ := fl3.there
    have nfr : a ∉ frs (X.env :: X.outer) := fun hm => by
      obtain ⟨_, o', e', hnf⟩ := fl3.2.2.1.mem hm
      rw [g3] at e'
      cases e'
      exact hnf _ d3
    have nL : a ≠ X.env.locals := fun z => nfr (List.mem_filterMap.mpr ⟨X.env, List.mem_cons_self, fr.trans (congrArg some z.symm)⟩)
    have nF : a ∉ X.fs := fun hm => by
      obtain ⟨e, he, q⟩ := List.mem_filterMap.mp hm
      exact nfr (List.mem_filterMap.mpr ⟨e, List.mem_cons_of_mem _ he, q⟩)
    have S3 := J3.suite g3 d3 na nL nF
    -- the test of a clause
    have test : ∀ {x : Str} {c : Value} {np : Pos} {b : Bool} {Q : Value → Shared → Prop} {R : Bool → Shared → Prop}, Names X x c → True := fun _ => trivial
    have name : ∀ {x : Str} {c : Value} {np : Pos} {Q : Value → Shared → Prop} {E : Value → Shared → Prop}, Names X x c → Q c { s' with heap := h3 } → wpAny (model X.prog X.w) (X.A.mark (some (.ref a))) (eval (.Name x np) X.env) Q E { s' with heap := h3 } :=
      fun {x c np Q E} hc q => by
        obtain ⟨hg, hdbg, hm⟩ := hc
        rcases hm with hm | ⟨hm, hv, hnn⟩
        · exact ld_glob (X := X.suite a ((a, o3) :: (X.pn ++ pins))) S3 hg hm q hdbg
        · exact ld_blt (X := X.suite a ((a, o3) :: (X.pn ++ pins))) S3 hg hm hv q hnn hdbg
    have LT : PySem.W.Looks (model X.prog X.w) h3 (typeOf (.ref a)) cls := fun A Q E s k q => wpAny_typeOf_ref (k _ _ g3) (by rw [z3.1]; exact q)
    -- the suite's state
    have suite : ∀ {h4 : Heap}, HandSPX.FlyingZ B (X.env :: X.outer) a (Zc cls d) h4 → h3.UpToSlots h4 → ∃ o4, Zc cls d o4 ∧ (∃ vs, o4.data = .fields vs) ∧ Inv (X.suite a ((a, o4) :: (X.pn ++ pins))) [] τ G { s' with heap := h4 } := fun {h4} fl4 up4 => by
      have J4 : Inv X pins τ G { s' with heap := h4 } := J.landed nb fl4.1 ((up.trans up3).trans up4) hos bare
      obtain ⟨o4, v4, g4, z4, d4⟩ := fl4.there
      exact ⟨o4, z4, ⟨v4, d4⟩, J4.suite g4 d4 na nL nF⟩
    suffices go : ∀ {hs' : List ExceptHandler} {l' : List Hd}, HdX X hs' l' → wX X.K Wo D l' cls d τ G → wpAny (model X.prog X.w) X.A (handleBy (.ref a) X.env hs') (SP X pins D) X.xe { s' with heap := h3 } from go hh w
    intro hs' l' hk
    induction hk with
    | nil =>
      intro w
      obtain ⟨_, _, _, oe, vs, T, oT, ts', he, hz, hd, h1, hr⟩ := id fl3
      have fin : wpAny (model X.prog X.w) X.A (setFlight (.ref a) X.env.frame) (fun _ s4 => wpAny (model X.prog X.w) X.A (throw (.ref a) : Sem Flow) (SP X pins D) X.xe s4) X.xe { s' with heap := h3 } := by
        rw [show X.env.frame = some X.env.locals from fr]
        exact HandSPX.setFlight_upZ fl3 fun h4 hh4 up4 => wpAny_throw (tk _ _ ⟨a, B, sI, pins, τ, G, cls, d, rfl, J, nb, (up.trans up3).trans up4, .inr (.inr (by rw [st]; exact hh4)), na, hos, bare, w⟩)
      refine wpAny_handleBy_nil ?_
      unfold PySem.passOn
      refine wpAny_bind (wpAny_field he hd h1 ?_)
      rw [if_neg (by intro z; simp at z)]
      first | exact wpAny_bind (wpAny_pure (wpAny_bind fin)) | exact wpAny_bind fin
    | plain hc hsu _ ih =>
      rintro ⟨b, hb1, hyes, hno⟩
      refine wpAny_handleBy_cons (codeAny_handlers_test ?_) (by intro q; cases q)
      refine name hc ((PySem.W.exm_one (M := model X.prog X.w) J3.kIn LT hb1).here ?_)
      cases b with
      | false => exact ih (hno rfl)
      | true =>
        refine codeAny_handlers_suite (HandSPX.lands_againZ fl3 fun h4 fl4 up4 => ?_)
        obtain ⟨o4, z4, d4, S4⟩ := suite fl4 up4
        refine wpAny_mono ((hsu a o4 cls d (X.pn ++ pins) z4 d4).run [] _ _ G _ S4 (hyes rfl a na)) (fun f s6 z => ?_) fun _ _ z => z.elim
        cases f <;> first
          | exact let ⟨p, q, r, k⟩ := z; ⟨p, q, r.unsuite ok, k⟩
          | exact let ⟨p, q, r, k, m, n⟩ := z; ⟨p, q, r, k.unsuite ok, m, n⟩
    | named hc hi hloc hsu _ ih =>
      rintro ⟨b, hb1, hyes, hno⟩
      refine wpAny_handleBy_cons (codeAny_handlers_test ?_) (by intro q; cases q)
      refine name hc ((PySem.W.exm_one (M := model X.prog X.w) J3.kIn LT hb1).here ?_)
      cases b with
      | false => exact ih (hno rfl)
      | true =>
        refine codeAny_handlers_suite_as (HandSPX.lands_againZ fl3 fun h4 fl4 up4 => ?_)
        obtain ⟨o4, z4, d4, S4⟩ := suite fl4 up4
        refine store_ok (X := X.suite a ((a, o4) :: (X.pn ++ pins))) (v := .ref a) S4 hN hi (.inl hloc) rfl (fun s5 S5 => ?_) (.inr hloc)
        refine wpAny_mono ((hsu a o4 cls d (X.pn ++ pins) z4 d4).run [] s5 _ G _ S5 (hyes rfl a na)) (fun f s6 z => ?_) fun _ _ z => z.elim
        cases f <;> first
          | exact let ⟨_, _, r, k⟩ := z; gone_ok (r.unsuite ok) hN hi hloc fun s7 J7 => ⟨_, _, J7, k⟩
          | exact let ⟨_, _, _, k, m, n⟩ := z; gone_ok (k.unsuite ok) hN hi hloc fun s7 J7 => ⟨_, _, _, J7, m, n⟩
end
end Pd

/-! Soundness of statements: try, a comprehension stored at once, all of them. -/
namespace Pd
open L2 PyProof.Rows PySem.Spec PySem
theorem funC_ok {sc : Scope} (h : funC sc = true) : sc.kind = .function := by
  unfold funC at h
  split at h
  · assumption
  · cases h
section
variable {G : Gx} {gi : Str → Option Int} {X : Cx} {W : WX}
theorem s_asgl {i : Nat} {e : E} {x : Str} {v : Expr} {p pos : Pos} (S : Sok G gi X W) (hN : X.N[i]? = some x) (hl : isLocC X.env.scope x = true) (hm : mE (mxOf G gi X) e X.env.scope v = true) (hf : lcFree x p v = true) (hk : funC X.env.scope = true) :
    PS X (.Assign [.Name x p] v pos) (tS G X W (.asgl i e)) := by
  cases v with
  | ListComp pelt gs scope lp =>
    simp only [lcFree, Bool.and_eq_true, Bool.not_eq_true'] at hf
    cases e with
    | lc is tp it c elt =>
      unfold mE at hm
      split at hm
      · rename_i heq
        cases heq
        simp only [Bool.and_eq_true] at hm
        obtain ⟨⟨⟨⟨m1, m2⟩, m3⟩, m4⟩, m5⟩ := hm
        obtain ⟨q1, q2, q3, q4, q5, q6, q7⟩ := lc_parts (W := W) (snd it) (snd c) (snd elt) S.toCok m1 m2 (Bool.and_eq_true_iff.mpr m3) m4 m5
        refine (ps_setLc S.calm S.nd hN (loc_of hl) (sw_true (funC_ok hk) (loc_of hl) hf.1 hf.2) q1 q2 q4 q5 q6 q7).imp fun D σ H w => ?_
        rw [q3]
        exact asg_red (te := tLc (tI G X W it) (gT X.K is tp) (tC' G X c) (tE G X W0 elt) is) (fun _ h => lc_red h) (show tS G X W (.asg i (.lc is tp it c elt)) D σ H from w)
      · cases hm
    | _ => simp [mE] at hm
  | _ => simp [lcFree] at hf

/-! ### except clauses -/
theorem suite_two {a b : Str} {x y : V} {e1 e2 : Expr} {j : Nat} {p q : Pos} (h1 : ∀ X, PE X e1 (tC x)) (h2 : ∀ X, PE X e2 (tC y)) (n1 : ∀ e q, e1 ≠ .Starred e q) (n2 : ∀ e q, e2 ≠ .Starred e q) :
    SuiteOk X [.Return (some (.Tuple [e1, e2] j p)) q] (fun _ _ _ => fun D _ H => ∀ t, H t = none → D.rt (.ref t) (upd H t (.tup [x, y]))) := by
  intro a oe cls d pn hz hf
  refine (pss_cons (ps_ret (pe_tup (pa_cons (h1 _) (pa_cons (h2 _) pa_nil (star_ok n2 _ _)) (star_ok n1 _ _)))) pss_nil).imp fun D σ H h => ?_
  exact ⟨line1000 (by show 2 ≤ 1000; decide), h⟩
theorem suite_fld {a f n : Str} {i : Nat} {C : Addr} {j jj : Nat} {p p2 p3 p4 q : Pos} (T : XfC X.K C) (hno : PySem.W.findIn X.K (.ref C) f = some none) (hN : X.N[i]? = some n) (hv : visC X.env.scope n = true) :
    SuiteOk X [.Return (some (.Tuple [.Constant (.str a) jj p2, .Attribute (.Name n p3) f p4] j p)) q] (fun r cls d => fun D σ H => σ[i]? = some (some (.ref r)) ∧ cls = .ref C ∧ ∃ (dd : Addr) (fs : List (Str × V)) (v : V), d = some dd ∧ H dd = some (.xd fs) ∧ fs.lookup f = some v ∧
      ∀ t, H t = none → D.rt (.ref t) (upd H t (.tup [.str a, v]))) := by
  intro r oe cls d pn hz hf
  obtain ⟨h1, h2, h3⟩ := visC_ok hv
  have pv : PE (X.suite r ((r, oe) :: pn)) (.Name n p3) _ := pe_var hN h1 h2 h3
  have pa := pe_xf (pos := p4) T hno hz hf pv
  refine (pss_cons (ps_ret (pe_tup (pa_cons pe_str (pa_cons pa pa_nil)))) pss_nil).imp fun D σ H h => ?_
  obtain ⟨g1, g2, dd, fs, v, g3, g4, g5, g6⟩ := h
  exact ⟨_, g1, rfl, g2, dd, fs, v, g3, g4, g5, line1000 (by show 2 ≤ 1000; decide), g6⟩
/-- what a clause's suite hands back stands for data -/
theorem rt_two {R : RC} {Z : Addr → Prop} {H0 H : Hp} {io : Option (Nat × Addr)} {σ : Sg} {env : Loca} {P : Po} {D : Ends} {t : Addr} {vs : List V} {ds : List Pd.D} (er : ER R Z H0 io σ H env) (l : Lks R Z H0 io W σ H env P D) (ht : H t = none)
    (r : ∀ H, Reps R H vs ds) (w : P.rt (.tup ds) false env) : D.rt (.ref t) (upd H t (.tup vs)) := by
  have e1 : Same H (upd H t (.tup vs)) := same_new ht
  have nz : ¬ Z t := fun z => by
    obtain ⟨o, ho⟩ := er.zok t z
    rw [ht] at ho; cases ho
  refine l.rt σ _ env (.ref t) (.tup ds) false (er.grow e1) (mono_grow e1) ⟨.tup (.inl (.inl ?_)) (r _), fun h => by cases h⟩ w
  unfold hz
  rw [if_neg nz]
  exact upd_same
theorem gl_of {x : Str} (h : glC X.env.scope x = true) : Gl X x ∧ (x == ("__debug__" : Str)) = false := glC_ok h
theorem kind_field {R : RC} {H : Hp} {c : Value} {dd : Option Addr} {x : Exn} (h : XRep R.mg H c dd x) (hk : x.kind ≠ .mal) : ∃ (a : Addr) (fs : List (Str × V)) (v : V), dd = some a ∧ H a = some (.xd fs) ∧ fs.lookup (ekField x.kind) = some v ∧ ∀ H, Rep R H v x.field := by
  cases x with
  | mal => exact absurd rfl hk
  | ref r =>
    obtain ⟨_, a, fs, h1, h2, h3⟩ := h
    exact ⟨a, fs, _, h1, h2, h3, fun _ => .str r⟩
  | nt r =>
    obtain ⟨_, a, fs, h1, h2, h3⟩ := h
    exact ⟨a, fs, _, h1, h2, h3, fun _ => .int r⟩
theorem kind_name {mg : Str → Option Value} {H : Hp} {c : Value} {dd : Option Addr} {x : Exn} (h : XRep mg H c dd x) : mg (ekName x.kind) = some c := by
  cases x <;> exact h.1
theorem hd_of (Sk : Sok G gi X W) : ∀ {hs : S} {pes : List ExceptHandler}, mH (mxOf G gi X) hs X.env.scope pes = true → ∃ l, HdX X pes l ∧ ∀ (D : Ends) (Z : Addr → Prop) (H0 : Hp) (io : Option (Nat × Addr)) (x : Exn) (σ : Sg) (H : Hp) (env : Loca) (P : Po) (c : Value) (dd : Option Addr),
    G.iop = io.map (·.1) → ER (rcOf G X) Z H0 io σ H env → Lks (rcOf G X) Z H0 io W σ H env P D → XRep X.mg H c dd x → wHnd G hs x env P → wX X.K W D l c dd σ H := by
  intro hs
  induction hs with
  | nil =>
    intro pes h
    cases pes with
    | nil => exact ⟨[], .nil, fun D Z H0 io x σ H env P c dd hi er l xr w => l.ex x σ H env c dd er .refl xr w⟩
    | cons => simp [mH] at h
  | hnd k sl e r ih =>
    intro pes h
    unfold mH at h
    split at h
    · rename_i x np nm tp jj p q qq hs'
      simp only [Bool.and_eq_true, decide_eq_true_eq] at h
      obtain ⟨⟨⟨⟨rfl, hg⟩, hek⟩, hr⟩, hm⟩ := h
      obtain ⟨hg1, hg2⟩ := gl_of hg
      obtain ⟨C, hC, hfld⟩ := Sk.ekc k hek
      obtain ⟨l, hl, hw⟩ := ih hm
      have nms : Names X (ekName k) (.ref C) := ⟨hg1, hg2, .inl hC⟩
      have rest : ∀ {x : Exn} {c : Value} {dd : Option Addr} {H : Hp}, XRep X.mg H c dd x → PySem.W.exmOne X.K c (.ref C) = some (decide (x.kind = k)) := fun {x c dd H} xr => Sk.ekx x.kind k c (.ref C) hek (kind_name xr) hC
      unfold mHr at hr
      split at hr
      · rename_i a b j1 q1 j2 q2
        simp only [decide_eq_true_eq] at hr
        subst hr
        refine ⟨_, .plain nms (suite_two (a := a) (b := a) (fun X => pe_str (x := a)) (fun X => pe_non) (by intro e q z; cases z) (by intro e q z; cases z)) hl, fun D Z H0 io x σ H env P c dd hi er lk xr w => ?_⟩
        unfold wHnd at w
        refine ⟨_, rest xr, fun hb n hn t ht => ?_, fun hb => ?_⟩
        · rw [if_pos (of_decide_eq_true hb).symm] at w
          exact rt_two er lk ht (fun H => .cons (.str a) (.cons .non .nil)) w
        · rw [if_neg fun z => of_decide_eq_false hb z.symm] at w
          exact hw D Z H0 io x σ H env P c dd hi er lk xr w
      · rename_i a b c' d' j1 q1 j2 q2
        simp only [Bool.and_eq_true, decide_eq_true_eq] at hr
        obtain ⟨rfl, rfl⟩ := hr
        refine ⟨_, .plain nms (suite_two (a := a) (b := a) (fun X => pe_str) (fun X => pe_str) (by intro e q z; cases z) (by intro e q z; cases z)) hl, fun D Z H0 io x σ H env P c dd hi er lk xr w => ?_⟩
        unfold wHnd at w
        refine ⟨_, rest xr, fun hb n hn t ht => ?_, fun hb => ?_⟩
        · rw [if_pos (of_decide_eq_true hb).symm] at w
          exact rt_two er lk ht (fun H => .cons (.str _) (.cons (.str _) .nil)) w
        · rw [if_neg fun z => of_decide_eq_false hb z.symm] at w
          exact hw D Z H0 io x σ H env P c dd hi er lk xr w
      · rename_i i a n b j1 q1 m p1 f p2
        simp only [Bool.and_eq_true, decide_eq_true_eq] at hr
        obtain ⟨⟨⟨⟨⟨⟨rfl, hN⟩, rfl⟩, hloc⟩, hvis⟩, rfl⟩, hnm⟩ := hr
        obtain ⟨hX, hfi⟩ := hfld hnm
        refine ⟨_, .named nms hN (loc_of hloc) (suite_fld hX hfi hN hvis) hl, fun D Z H0 io x σ H env P c dd hi er lk xr w => ?_⟩
        unfold wHnd at w
        refine ⟨_, rest xr, fun hb r hr => ?_, fun hb => ?_⟩
        · have hk := (of_decide_eq_true hb)
          rw [if_pos hk.symm] at w
          obtain ⟨hle, _, w⟩ := w
          subst hk
          obtain ⟨d2, fs, v, e1, e2, e3, e4⟩ := kind_field (R := rcOf G X) xr hnm
          have hc : c = .ref C := by
            have := kind_name xr
            rw [hC] at this
            exact (Option.some.inj this).symm
          refine ⟨?_, hc, d2, fs, v, e1, e2, e3, fun t ht => ?_⟩
          · show (σ.set i _)[i]? = _
            have hlen : i < σ.length := by rw [er.len]; exact hle
            rw [List.getElem?_set_self hlen]
          · exact rt_two (D := D) er lk ht (fun H => .cons (.str _) (.cons (e4 H) .nil)) w
        · rw [if_neg fun z => of_decide_eq_false hb z.symm] at w
          exact hw D Z H0 io x σ H env P c dd hi er lk xr w
      · cases hr
    · cases h
  | _ => intro pes h; simp [mH] at h
end
end Pd

/-! Soundness of statements: all of them. -/
namespace Pd
open L2 PyProof.Rows PySem.Spec PySem
section
variable {G : Gx} {gi : Str → Option Int} {X : Cx} {W : WX}
theorem Sok.tr (Sk : Sok G gi X W) {W' : WX} {pn : List (Addr × Obj)} {xe : Value → Shared → Prop} (tk : Takes (X.tr pn xe) W') (po : PassesOwn (model X.prog X.w) X.A X.env xe) : Sok G gi (X.tr pn xe) W' :=
  { nd := Sk.nd, calm := Sk.calm, room := Sk.room, units := Sk.units, tk := tk, bf := Sk.bf, ty := Sk.ty, isi := Sk.isi, rng := Sk.rng, zip := Sk.zip, enm := Sk.enm, gi := Sk.gi, fns := Sk.fns, po := po, fnt := Sk.fnt, hs := Sk.hs, hf := Sk.hf, mal := Sk.mal, ekc := Sk.ekc, ekx := Sk.ekx, ini := Sk.ini }
/-- what is known of a statement's form -/
structure SnS (G : Gx) (gi : Str → Option Int) (s : S) : Prop where
  st : ∀ (X : Cx) (W : WX) (py : Stmt), Sok G gi X W → mS (mxOf G gi X) s X.env.scope py = true → PS X py (tS G X W s)
  ss : ∀ (X : Cx) (W : WX) (py : List Stmt), Sok G gi X W → mB (mxOf G gi X) s X.env.scope py = true → PSs X py (tS G X W s)
theorem s_tr {b hs : S} {body : List Stmt} {h0 : ExceptHandler} {hs' : List ExceptHandler} {pos : Pos} (Sk : Sok G gi X W) (hb : SnS G gi b) (h1 : mB (mxOf G gi X) b X.env.scope body = true) (h2 : mH (mxOf G gi X) hs X.env.scope (h0 :: hs') = true) :
    PS X (.Try body (h0 :: hs') [] [] pos) (tS G X W (.tr b hs)) := by
  obtain ⟨l, hl, hw⟩ := hd_of Sk h2
  refine (ps_tryX (tb := fun W' => tS G X W' b) Sk.hs Sk.hf Sk.nd Sk.tk (fun W' pn xe tk po => hb.ss (X.tr pn xe) W' body (Sk.tr tk po) h1) hl).imp ?_
  rintro D σ H ⟨Z, H0, io, env, P, hi, er, w, lk⟩
  unfold wS at w
  refine ⟨Z, H0, io, env, _, hi, er, w, ⟨lk.nx, lk.bk, lk.ct, lk.rt, fun x σ' H' env' c dd r m xr w' => ?_⟩⟩
  exact hw D Z H0 io x σ' H' env' P c dd hi r (lk.step m) xr w'
theorem set_free {e : E} {it : Expr} (h : mI (mxOf G gi X) e X.env.scope it = true) : ∀ v, foldedSetIterable it X.env v = pure v := fun v => by
  cases it <;> first | rfl | (cases e <;> simp [mI, notSet] at h)
theorem snS : ∀ s : S, SnS G gi s := by
  intro s
  induction s with
  | nil =>
    refine ⟨fun X W py Sk h => by simp [mS] at h, fun X W py Sk h => ?_⟩
    cases py with
    | nil => exact s_nilS
    | cons => simp [mB] at h
  | seq s r h1 h2 =>
    refine ⟨fun X W py Sk h => by simp [mS] at h, fun X W py Sk h => ?_⟩
    cases py with
    | nil => simp [mB] at h
    | cons p ps =>
      simp only [mB, Bool.and_eq_true] at h
      exact s_seqS (h1.st X W p Sk h.1) (h2.ss X W ps Sk h.2)
  | expr e =>
    refine ⟨fun X W py Sk h => ?_, fun X W py Sk h => by simp [mB] at h⟩
    unfold mS at h
    split at h
    · simp only [Bool.and_eq_true] at h
      exact s_expr ((snd e).ex X W _ Sk.toCok h.2) h.1
    · cases h
  | asg i e =>
    refine ⟨fun X W py Sk h => ?_, fun X W py Sk h => by simp [mB] at h⟩
    unfold mS at h
    split at h
    · simp only [Bool.and_eq_true, decide_eq_true_eq, Bool.or_eq_true] at h
      exact s_asg Sk h.1.1.1 h.1.1.2 ((snd e).ex X W _ Sk.toCok h.1.2) h.2
    · cases h
  | asgl i e =>
    refine ⟨fun X W py Sk h => ?_, fun X W py Sk h => by simp [mB] at h⟩
    unfold mS at h
    split at h
    · simp only [Bool.and_eq_true, decide_eq_true_eq] at h
      exact s_asgl Sk h.1.1.1.1 h.1.1.1.2 h.1.1.2 h.1.2 h.2
    · cases h
  | unp is e =>
    refine ⟨fun X W py Sk h => ?_, fun X W py Sk h => by simp [mB] at h⟩
    unfold mS at h
    split at h
    · simp only [Bool.and_eq_true] at h
      exact s_unp Sk h.1.1 h.1.2 ((snd e).ex X W _ Sk.toCok h.2)
    · cases h
  | par is es =>
    refine ⟨fun X W py Sk h => ?_, fun X W py Sk h => by simp [mB] at h⟩
    unfold mS at h
    split at h
    · simp only [Bool.and_eq_true, decide_eq_true_eq] at h
      exact s_par Sk h.1.1.1.1.1 h.1.1.1.1.2 h.1.1.1.2 h.1.1.2 h.1.2 h.2
    · cases h
  | app i e =>
    refine ⟨fun X W py Sk h => ?_, fun X W py Sk h => by simp [mB] at h⟩
    unfold mS at h
    split at h
    · simp only [Bool.and_eq_true, decide_eq_true_eq] at h
      obtain ⟨⟨⟨⟨h1, h2⟩, h3⟩, h4⟩, h5⟩ := h
      subst h3
      exact s_app h1 h2 ((snd e).ex X W _ Sk.toCok h4) (not_star h4) h5
    · cases h
  | seti i a e =>
    refine ⟨fun X W py Sk h => ?_, fun X W py Sk h => by simp [mB] at h⟩
    unfold mS at h
    split at h
    · simp only [Bool.and_eq_true, decide_eq_true_eq] at h
      obtain ⟨⟨⟨h1, h2⟩, h3⟩, h4⟩ := h
      refine s_seti h1 h2 ((snd a).ex X W _ Sk.toCok h3) ((snd e).ex X W _ Sk.toCok h4) ?_
      rename_i k _ v _
      intro v
      cases k <;> first | rfl | (exfalso; cases a <;> simp [mE] at h3)
    · cases h
  | ret e =>
    refine ⟨fun X W py Sk h => ?_, fun X W py Sk h => by simp [mB] at h⟩
    unfold mS at h
    split at h
    · refine s_ret ((snd e).ex X W _ Sk.toCok h) fun i hi => ?_
      subst hi
      unfold mE at h
      split at h
      · simp only [Bool.and_eq_true, decide_eq_true_eq] at h
        exact ⟨_, _, rfl, h.1, h.2⟩
      · cases h
    · cases h
  | retn =>
    refine ⟨fun X W py Sk h => ?_, fun X W py Sk h => by simp [mB] at h⟩
    unfold mS at h
    split at h
    · exact s_retn
    · cases h
  | ife c a b ha hb =>
    refine ⟨fun X W py Sk h => ?_, fun X W py Sk h => by simp [mB] at h⟩
    unfold mS at h
    split at h
    · simp only [Bool.and_eq_true] at h
      exact s_ife ((snd c).ts X W _ Sk.toCok h.1.1) (ha.ss X W _ Sk h.1.2) (hb.ss X W _ Sk h.2)
    · cases h
  | whl c b hb =>
    refine ⟨fun X W py Sk h => ?_, fun X W py Sk h => by simp [mB] at h⟩
    unfold mS at h
    split at h
    · simp only [Bool.and_eq_true] at h
      exact s_whl Sk ((snd c).ts X W _ Sk.toCok h.1) (hb.ss X W _ Sk h.2)
    · cases h
  | for_ is tp it b hb =>
    refine ⟨fun X W py Sk h => ?_, fun X W py Sk h => by simp [mB] at h⟩
    unfold mS at h
    split at h
    · simp only [Bool.and_eq_true] at h
      exact s_for Sk h.1.1 h.1.2.2 ((snd it).it X W _ _ Sk.toCok h.1.2.1.1 h.1.2.1.2) (set_free h.1.2.1.1) (hb.ss X W _ Sk h.2)
    · cases h
  | brk =>
    refine ⟨fun X W py Sk h => ?_, fun X W py Sk h => by simp [mB] at h⟩
    unfold mS at h
    split at h
    · exact s_brk
    · cases h
  | cnt =>
    refine ⟨fun X W py Sk h => ?_, fun X W py Sk h => by simp [mB] at h⟩
    unfold mS at h
    split at h
    · exact s_cnt
    · cases h
  | rmal m =>
    refine ⟨fun X W py Sk h => ?_, fun X W py Sk h => by simp [mB] at h⟩
    unfold mS at h
    split at h
    · simp only [Bool.and_eq_true, decide_eq_true_eq] at h
      obtain ⟨⟨⟨h1, h2⟩, h3⟩, h4⟩ := h
      subst h1
      exact s_rmal Sk h4 (gl_of h2).1
    · cases h
  | rexc k e =>
    refine ⟨fun X W py Sk h => ?_, fun X W py Sk h => by simp [mB] at h⟩
    unfold mS at h
    split at h
    · simp only [Bool.and_eq_true, decide_eq_true_eq] at h
      obtain ⟨⟨⟨⟨h1, h2⟩, h3⟩, h4⟩, h5⟩ := h
      subst h1
      exact s_rexc Sk h4 h5 (gl_of h2).1 ((snd e).ex X W _ Sk.toCok h3) (not_star h3)
    · cases h
  | tr b hs hb hhs =>
    refine ⟨fun X W py Sk h => ?_, fun X W py Sk h => by simp [mB] at h⟩
    unfold mS at h
    split at h
    · simp only [Bool.and_eq_true] at h
      exact s_tr Sk hb h.1 h.2
    · cases h
  | hnd => exact ⟨fun X W py Sk h => by simp [mS] at h, fun X W py Sk h => by simp [mB] at h⟩
end
end Pd

/-! Functions: a table of them, each by its short body; all keep what is said of them. -/
namespace Pd
open L2 PyProof.Rows PySem.Spec PySem

def vals (ds : List D) (m : Nat) : Loca := ds.map Cl.val ++ List.replicate m .emp
theorem vals_at {ds : List D} {m i : Nat} {c : Cl} (h : (vals ds m)[i]? = some c) : (∃ d, ds[i]? = some d ∧ c = .val d) ∨ c = .emp := by
  unfold vals at h
  rw [List.getElem?_append] at h
  split at h
  · rw [List.getElem?_map] at h
    cases e : ds[i]? with
    | none => rw [e] at h; cases h
    | some d => rw [e] at h; exact .inl ⟨d, rfl, (Option.some.inj h).symm⟩
  · rw [List.getElem?_replicate] at h
    split at h
    · exact .inr (Option.some.inj h).symm
    · cases h
theorem st_at {vs : List V} {m i : Nat} {v : V} (h : vs[i]? = some v) : (vs.map some ++ List.replicate m (none : Option V))[i]? = some (some v) := by
  have := (List.getElem?_eq_some_iff.mp h).1
  rw [List.getElem?_append_left (by simpa using this), List.getElem?_map, h]
  rfl
section
variable {R : RC} {Z : Addr → Prop} {H : Hp}
theorem er_vals {vs : List V} {ds : List D} {m : Nat} (hz' : ∀ b, Z b → ∃ o, H b = some o) (r : Reps R (hz Z H) vs ds) : ER R Z H none (vs.map some ++ List.replicate m none) H (vals ds m) := by
  have no : ∀ b, ¬ Own (vs.map some ++ List.replicate m none) (vals ds m) b := fun b ⟨i, d, h, _⟩ => by
    rcases vals_at h with ⟨_, _, z⟩ | z <;> cases z
  have see : Same (hz Z H) (hid Z (vs.map some ++ List.replicate m none) (vals ds m) H) := fun b o h => hid_of (hz_some h).1 (no b) (hz_some h).2
  refine ⟨?_, fun i d h => ?_, fun i d h => ?_, fun i j d e a h1 => ?_, fun b o h _ => h, fun a h => (no a h).elim, hz', fun a h => (no a h).elim, fun p a h => by cases h⟩
  · simp [vals, r.length]
  · rcases vals_at h with ⟨e, h1, z⟩ | z
    · cases z
      obtain ⟨v, h2, q⟩ := r.getD h1
      exact ⟨v, st_at h2, q.mono see⟩
    · cases z
  · rcases vals_at h with ⟨_, _, z⟩ | z <;> cases z
  · rcases vals_at h1 with ⟨_, _, z⟩ | z <;> cases z
theorem er_io {vs : List V} {ds : List D} {d0 : D} {a : Addr} {m : Nat} (hz' : ∀ b, Z b → ∃ o, H b = some o) (ha : Z a) (r0 : RepO R H (hz Z H) a d0) (r : Reps R (hz Z H) vs ds) :
    ER R Z H (some (0, a)) ((V.ref a :: vs).map some ++ List.replicate m none) H (.own d0 :: vals ds m) := by
  have ow : ∀ b, Own ((V.ref a :: vs).map some ++ List.replicate m none) (.own d0 :: vals ds m) b → b = a := fun b ⟨i, d, h, h2⟩ => by
    cases i with
    | zero => cases h2; rfl
    | succ i => rcases vals_at h with ⟨_, _, z⟩ | z <;> cases z
  have see : Same (hz Z H) (hid Z ((V.ref a :: vs).map some ++ List.replicate m none) (.own d0 :: vals ds m) H) := fun b o h => hid_of (hz_some h).1 (fun z => (hz_some h).1 (by rw [ow b z]; exact ha)) (hz_some h).2
  refine ⟨?_, fun i d h => ?_, fun i d h => ?_, fun i j d e b h1 h2 => ?_, fun b o h _ => h, fun b h => .inr ⟨0, by rw [ow b h]⟩, hz', fun b h _ => ⟨0, by rw [ow b h]⟩, fun p b h => ?_⟩
  · simp [vals, r.length]
  · cases i with
    | zero => cases h
    | succ i =>
      rcases vals_at h with ⟨e, h1, z⟩ | z
      · cases z
        obtain ⟨v, h2, q⟩ := r.getD h1
        exact ⟨v, st_at (vs := V.ref a :: vs) (i := i + 1) h2, q.mono see⟩
      · cases z
  · cases i with
    | zero =>
      cases h
      exact ⟨a, rfl, r0.mono rfl see⟩
    | succ i => rcases vals_at h with ⟨_, _, z⟩ | z <;> cases z
  · cases i with
    | zero =>
      cases j with
      | zero => intro _ _; rfl
      | succ j => rcases vals_at h2 with ⟨_, _, z⟩ | z <;> cases z
    | succ i => rcases vals_at h1 with ⟨_, _, z⟩ | z <;> cases z
  · cases h
    exact ⟨rfl, d0, rfl⟩
end

/-- a def: its name and text, the names of its slots, its parameters, its short body, what is said of it -/
structure Fd where
  nm : Str
  params : Arguments
  body : List Stmt
  scope : Scope
  N : List Str
  ps : List Str
  b : S
  io : Bool
  fr : Bool
  lv : Nat
  sp : Spec
def botF : Fd := ⟨"", ⟨[], [], none, [], [], none, []⟩, [], ⟨.function, [], false, false, []⟩, [], [], .nil, false, false, 1000000, fun _ _ _ => False⟩
def fdAt (T : List Fd) (n : Nat) : Fd := (T[n]?).getD botF
def tbOf (T : List Fd) (ek : EK → Bool) : Tb := ⟨fun n => (fdAt T n).nm, fun n => (fdAt T n).io, fun n => (fdAt T n).fr, fun n => (fdAt T n).lv, fun k => ek k, fun k => ek k && decide (k ≠ .mal)⟩
def gxOf (T : List Fd) (ek : EK → Bool) (f : Fd) : Gx := ⟨tbOf T ek, fun m => (fdAt T m).sp, f.lv - 1 + 1, if f.io then some 0 else none⟩
def env0 (f : Fd) (ds : List D) : Loca := if f.io then (match ds with
  | d0 :: ds' => .own d0 :: vals ds' (f.N.length - ds.length)
  | [] => vals [] (f.N.length - ds.length)) else vals ds (f.N.length - ds.length)
def po0 (f : Fd) (P : D → D → Prop) (Ex : Exn → Prop) : Po := if f.io then
    { nx := fun env => ∃ d1, at_ env 0 = .own d1 ∧ P .non d1, rt := fun d _ env => ∃ d1, at_ env 0 = .own d1 ∧ P d d1, bk := fun _ => False, ct := fun _ => False, ex := fun _ _ => False }
  else { nx := fun _ => P .non .non, rt := fun d b _ => (f.fr = true → isMut d = true → b = true) ∧ P d .non, bk := fun _ => False, ct := fun _ => False, ex := fun x _ => Ex x }
/-- what is left to prove of a def -/
def Good (T : List Fd) (ek : EK → Bool) (f : Fd) : Prop := ∀ ds P Ex, f.sp ds P Ex → f.lv ≠ 0 ∧ ds.length = f.ps.length ∧ wS (gxOf T ek f) f.b (env0 f ds) (po0 f P Ex)
/-- level 0: nothing is said -/
def chk (T : List Fd) (ek : EK → Bool) (gi : Str → Option Int) (f : Fd) : Bool := decide (f.lv = 0) || mB ⟨tbOf T ek, f.lv - 1 + 1, f.N, gi⟩ f.b f.scope f.body && C8.scC f.N f.ps f.scope && decide (f.lv ≤ 1000000) && !(f.io && f.fr)
/-- what is known of the written world -/
structure Wok (P : Program) (K : PySem.W.Frag) (mg : Str → Option Value) (T : List Fd) (ek : EK → Bool) (gi : Str → Option Int) : Prop where
  bf : ∀ f, mg (bfName f) = none
  ty : ∀ t, mg (tyName t) = none
  isi : mg "isinstance" = none
  rng : mg "range" = none
  zip : mg "zip" = none
  enm : mg "enumerate" = none
  gi : ∀ x i, gi x = some i → ∃ t, mg x = some (.int i t)
  mal : ek .mal = true → ∃ C, mg "Malformed" = some (.ref C) ∧ PySem.W.excIn K C [.type "ValueError", .type "Exception", .type "BaseException", .type "object"] "ValueError.__new__" = true ∧ PySem.W.keepIn K (.ref C) = true ∧
    PySem.W.subIn K (.ref C) (.type "BaseException") = some true ∧ PySem.W.typeIn K (.ref C) = some (.type "type")
  ekc : ∀ k, ek k = true → ∃ C, mg (ekName k) = some (.ref C) ∧ (k ≠ .mal → XfC K C ∧ PySem.W.findIn K (.ref C) (ekField k) = some none)
  ini : ∀ k, ek k = true → k ≠ .mal → IniOk K mg (ekName k) (ekField k)
  ekx : ∀ k k' C C', ek k' = true → mg (ekName k) = some C → mg (ekName k') = some C' → PySem.W.exmOne K C C' = some (decide (k = k'))
  fns : ∀ n, n < T.length → ∃ f fd, mg (fdAt T n).nm = some (.ref f) ∧ FunD K (fdAt T n).nm (fdAt T n).nm (fdAt T n).params (fdAt T n).body (fdAt T n).scope [] [] f fd ∧ Binds K fd (fdAt T n).ps []
section
variable {P : Program} {w : World} {K : PySem.W.Frag} {mg : Str → Option Value} {base : Heap} {T : List Fd} {ek : EK → Bool} {gi : Str → Option Int}
abbrev rcT (K : PySem.W.Frag) (mg : Str → Option Value) (T : List Fd) (ek : EK → Bool) : RC := ⟨K, mg, (tbOf T ek).fnm, fun _ => ("" : Str), fun _ => []⟩
abbrev FdOk (P : Program) (w : World) (K : PySem.W.Frag) (mg : Str → Option Value) (base : Heap) (T : List Fd) (ek : EK → Bool) (f : Fd) (a : Addr) (fd : FuncData) : Prop :=
  FnOk P w K mg base (L2.CX P w) f.lv a fd f.ps (toSp (rcT K mg T ek) f.io f.fr f.sp)
theorem at_zero {c : Cl} {env : Loca} (h : at_ env 0 = c) (hc : c ≠ .emp) : env[0]? = some c := at_some h hc
theorem fd_ok (Wk : Wok P K mg T ek gi) {f : Fd} {a : Addr} {fd : FuncData} (F : FunD K f.nm f.nm f.params f.body f.scope [] [] a fd) (hc : chk T ek gi f = true) (hg : Good T ek f)
    (ih : ∀ n, (fdAt T n).lv < f.lv → ∃ a fd, mg (fdAt T n).nm = some (.ref a) ∧ PySem.W.keepIn K (.ref a) = true ∧ FdOk P w K mg base T ek (fdAt T n) a fd ∧ Binds K fd (fdAt T n).ps []) : FdOk P w K mg base T ek f a fd := by
  by_cases h0 : f.lv = 0
  · exact ⟨fun vs H Q E ⟨Z, ds, Pd, Ex, _, hs, k1, k2⟩ => absurd h0 (hg _ _ _ hs).1, fun A outer s H args us vs Q E _ _ _ _ ⟨Z, ds, Pd, Ex, _, hs, k1, k2⟩ => absurd h0 (hg _ _ _ hs).1⟩
  unfold chk at hc
  simp only [Bool.or_eq_true, Bool.and_eq_true, decide_eq_true_eq, Bool.not_eq_true', Bool.and_eq_false_iff, h0, false_or] at hc
  obtain ⟨⟨⟨hb, hsc⟩, h2⟩, h3⟩ := hc
  have FS := C8.fnScope_by hsc
  have hlv : f.lv = f.lv - 1 + 1 := by omega
  have len : ∀ vs H Q E, toSp (rcT K mg T ek) f.io f.fr f.sp vs H Q E → vs.length = f.ps.length := fun vs H Q E ⟨Z, ds, Pd, Ex, _, hs, k1, k2⟩ => by
    have hl := (hg _ _ _ hs).2.1
    cases e : f.io with
    | false => rw [← hl]; exact (k1 e).1.length
    | true =>
      obtain ⟨a, vs', d0, ds', rfl, rfl, _, _, r, _⟩ := k2 e
      rw [← hl]
      exact congrArg (· + 1) r.length
  have key : FnOk P w K mg base (L2.CX P w) (f.lv - 1 + 1) a fd f.ps (toSp (rcT K mg T ek) f.io f.fr f.sp) := by
    refine F.ok FS len fun cdv A outer s H vs Q E hr hsp => ?_
    have Sk : Sok (gxOf T ek f) gi (cxOf (L2.CX P w) P w K mg base f.N f.nm f.scope a cdv A outer s H E) (fun cls d _ H => E cls d H) :=
      { nd := FS.nd, calm := rfl, room := fun j hj => hr.mono (by have : j < f.lv - 1 + 1 := hj; omega), units := hr.units, tk := takes_of rfl rfl rfl rfl, bf := Wk.bf, ty := Wk.ty, isi := Wk.isi, rng := Wk.rng, zip := Wk.zip, enm := Wk.enm, gi := Wk.gi,
        fns := fun n hn => by
          obtain ⟨b, fb, q1, q2, q3, q4⟩ := ih n (by have : (fdAt T n).lv < f.lv - 1 + 1 := hn; omega)
          exact ⟨b, fb, _, q1, q2, q3, q4⟩,
        po := passes_of rfl, fnt := fun _ => rfl, hs := rfl, hf := rfl, mal := Wk.mal, ekc := Wk.ekc, ekx := Wk.ekx, ini := fun k hk => by
          have hk : (ek k && decide (k ≠ .mal)) = true := hk
          simp only [Bool.and_eq_true, decide_eq_true_eq] at hk
          exact Wk.ini k hk.1 hk.2 }
    refine ⟨_, (snS f.b).ss _ _ f.body Sk hb, ?_⟩
    obtain ⟨Z, ds, Pd', Ex, hzo, hs, k1, k2⟩ := hsp
    obtain ⟨_, hl, hw⟩ := hg _ _ _ hs
    have hvl := len vs H Q E ⟨Z, ds, Pd', Ex, hzo, hs, k1, k2⟩
    cases e : f.io with
    | false =>
      obtain ⟨r, kr, kx⟩ := k1 e
      refine ⟨Z, H, none, vals ds (f.N.length - ds.length), po0 f Pd' Ex, by simp [gxOf, e], ?_, ?_, ?_⟩
      · unfold L2.start
        rw [show f.N.length - vs.length = f.N.length - ds.length by rw [r.length]]
        exact er_vals hzo r
      · have : env0 f ds = vals ds (f.N.length - ds.length) := by unfold env0; rw [e]; rfl
        rw [← this]
        exact hw
      · have no : ∀ b, ¬ Own (L2.start f.N vs) (vals ds (f.N.length - ds.length)) b := fun b ⟨i, d, h, _⟩ => by
          rcases vals_at h with ⟨_, _, z⟩ | z <;> cases z
        have same : ∀ {σ' H' env'}, Mono (L2.start f.N vs) H (vals ds (f.N.length - ds.length)) σ' H' env' → Same H H' := fun m b o h => m.keep b o h (no b)
        have hpo : po0 f Pd' Ex = { nx := fun _ => Pd' .non .non, rt := fun d b _ => (f.fr = true → isMut d = true → b = true) ∧ Pd' d .non, bk := fun _ => False, ct := fun _ => False, ex := fun x _ => Ex x } := by unfold po0; rw [e]; rfl
        rw [hpo]
        refine ⟨fun σ' H' env' er m k => ?_, fun σ' H' env' er m k => k.elim, fun σ' H' env' er m k => k.elim, fun σ' H' env' v d b er m rt k => ?_, fun x σ' H' env' c dd er m xr k => kx x c dd H' k (same m) xr⟩
        · exact kr .non .non .non H' k (same m) .non fun _ h => by cases h
        · exact kr d .non v H' k.2 (same m) rt.1 fun q1 q2 => rt.2 (k.1 q1 q2) q2
    | true =>
      obtain ⟨a0, vs', d0, ds', rfl, rfl, hZ, r0, r, kr, kx⟩ := k2 e
      refine ⟨Z, H, some (0, a0), .own d0 :: vals ds' (f.N.length - (d0 :: ds').length), po0 f Pd' Ex, by simp [gxOf, e], ?_, ?_, ?_⟩
      · unfold L2.start
        rw [show f.N.length - (V.ref a0 :: vs').length = f.N.length - (d0 :: ds').length by rw [List.length_cons, List.length_cons, r.length]]
        exact er_io hzo hZ r0 r
      · have : env0 f (d0 :: ds') = .own d0 :: vals ds' (f.N.length - (d0 :: ds').length) := by unfold env0; rw [e]; rfl
        rw [← this]
        exact hw
      · have ow : ∀ b, Own (L2.start f.N (V.ref a0 :: vs')) (.own d0 :: vals ds' (f.N.length - (d0 :: ds').length)) b → b = a0 := fun b ⟨i, d, h, h2⟩ => by
          cases i with
          | zero => cases h2; rfl
          | succ i => rcases vals_at h with ⟨_, _, z⟩ | z <;> cases z
        have keep : ∀ {σ' H' env'}, Mono (L2.start f.N (V.ref a0 :: vs')) H (.own d0 :: vals ds' (f.N.length - (d0 :: ds').length)) σ' H' env' → ∀ b o, b ≠ a0 → H b = some o → H' b = some o := fun m b o hb h => m.keep b o h fun z => hb (ow b z)
        have fin : ∀ {σ' H' env' d v}, ER (rcT K mg T ek) Z H (some (0, a0)) σ' H' env' → Mono (L2.start f.N (V.ref a0 :: vs')) H (.own d0 :: vals ds' (f.N.length - (d0 :: ds').length)) σ' H' env' → Rep (rcT K mg T ek) (hz Z H') v d → (∃ d1, at_ env' 0 = .own d1 ∧ Pd' d d1) → Q v H' := fun {σ' H' env' d v} er m q ⟨d1, e1, k⟩ => by
          obtain ⟨s1, _⟩ := er.ios 0 a0 rfl
          obtain ⟨b, s2, ro⟩ := er.own 0 d1 (at_some e1 (by intro z; cases z))
          rw [s1] at s2
          cases s2
          exact kr d d1 v H' k (keep m) q (ro.mono rfl see_base)
        have hpo : po0 f Pd' Ex = { nx := fun env => ∃ d1, at_ env 0 = .own d1 ∧ Pd' .non d1, rt := fun d _ env => ∃ d1, at_ env 0 = .own d1 ∧ Pd' d d1, bk := fun _ => False, ct := fun _ => False, ex := fun _ _ => False } := by unfold po0; rw [e]; rfl
        rw [hpo]
        exact ⟨fun σ' H' env' er m k => fin er m .non k, fun σ' H' env' er m k => k.elim, fun σ' H' env' er m k => k.elim, fun σ' H' env' v d b er m rt k => fin er m rt.1 k, fun x σ' H' env' c dd er m xr k => k.elim⟩
  rw [← hlv] at key
  exact key
/-- all of them -/
theorem fns_ok (Wk : Wok P K mg T ek gi) (hc : ∀ n, n < T.length → chk T ek gi (fdAt T n) = true) (hg : ∀ n, n < T.length → Good T ek (fdAt T n)) :
    ∀ (k n : Nat), n < T.length → (fdAt T n).lv ≤ k → ∃ a fd, mg (fdAt T n).nm = some (.ref a) ∧ PySem.W.keepIn K (.ref a) = true ∧ FdOk P w K mg base T ek (fdAt T n) a fd ∧ Binds K fd (fdAt T n).ps [] := by
  intro k
  have top : ∀ n, n < T.length → (fdAt T n).lv ≤ 1000000 := fun n hn => by
    have := hc n hn
    unfold chk at this
    simp only [Bool.or_eq_true, Bool.and_eq_true, decide_eq_true_eq] at this
    omega
  have inT : ∀ n m, n < T.length → (fdAt T m).lv < (fdAt T n).lv → m < T.length := fun n m hn hm => by
    by_cases z : m < T.length
    · exact z
    · have : fdAt T m = botF := by
        unfold fdAt
        rw [List.getElem?_eq_none (by omega)]
        rfl
      rw [this] at hm
      have := top n hn
      have : botF.lv = 1000000 := rfl
      omega
  induction k with
  | zero =>
    intro n hn h
    obtain ⟨a, fd, h1, h2, h3⟩ := Wk.fns n hn
    exact ⟨a, fd, h1, h2.kp, fd_ok Wk h2 (hc n hn) (hg n hn) fun m hm => by omega, h3⟩
  | succ k ih =>
    intro n hn h
    obtain ⟨a, fd, h1, h2, h3⟩ := Wk.fns n hn
    have hcn := hc n hn
    refine ⟨a, fd, h1, h2.kp, fd_ok Wk h2 hcn (hg n hn) fun m hm => ?_, h3⟩
    exact ih m (inT n m hn hm) (by omega)
end
end Pd

/-! The end: what the head tells, and a law's promise. -/
namespace Pd
open L2 PyProof.Rows PySem.Spec PySem

/-- a statement of a class's body -/
def clsStmt (s : Stmt) (j : Nat) : Stmt := match s with
  | .ClassDef _ _ _ b _ _ _ _ _ _ _ => b.getD j (.Pass ⟨0, 0, 0, 0⟩)
  | _ => .Pass ⟨0, 0, 0, 0⟩
def bfAll : List BF := [.len, .abs, .max, .min, .int, .str, .tuple, .list, .sum, .all, .any, .sorted, .bool]
def tyAll : List TyN := [.int, .bool, .str, .tuple, .list]
def ekAll : List EK := [.mal, .ref, .nt]
/-- the __init__ of an own class of exceptions: the class above, its parameter -/
structure Ini where
  k : EK
  up : Str
  y : Str
  qual : Str
  params : Arguments
  body : List Stmt
  scope : Scope
/-- what a law's text has: its table, its classes of exceptions, its numbers -/
structure Tx where
  T : List Fd
  here : List EK
  eks : List EK
  gis : List (Str × Int)
  inis : List Ini := []
def Tx.ek (t : Tx) (k : EK) : Bool := t.eks.contains k
def Tx.gi (t : Tx) (x : Str) : Option Int := t.gis.lookup x
def Tx.fa (t : Tx) : List He.Fa := t.T.map (fun f => .glo f.nm) ++ (bfAll.map (fun f => .free (bfName f)) ++ (tyAll.map (fun f => .free (tyName f)) ++ ([.free "isinstance", .free "range", .free "zip", .free "enumerate"] ++ (t.gis.map (fun p => .int p.1 p.2) ++
  (ekAll.map (fun k => if t.here.contains k then .glo (ekName k) else .free (ekName k)) ++ (t.here.flatMap (fun k => t.eks.map fun k' => .exm (ekName k) (ekName k') (decide (k = k'))) ++ (t.eks.map (fun k => if k = .mal then .exc (ekName k) else .noat (ekName k) (ekField k)) ++ t.inis.map fun i => .glo i.up)))))))
def Tx.defs (t : Tx) : List He.DefD := t.T.map (fun f => ⟨(f.nm, none), f.nm, f.nm, f.params, f.body, f.scope, [], []⟩) ++ t.inis.map fun i => ⟨(ekName i.k, some "__init__"), "__init__", i.qual, i.params, i.body, i.scope, [], []⟩
def iniB (K : PySem.W.Frag) (i : Ini) : Bool := oexB K (He.ga K (ekName i.k)) && decide (PySem.W.findIn K (.ref (He.ga K (ekName i.k))) "__init__" = some (some (.ref (He.ma K (He.ga K (ekName i.k)) "__init__")))) && decide (PySem.W.typeIn K (.ref (He.ma K (He.ga K (ekName i.k)) "__init__")) = some (.type "function")) &&
  PySem.W.readsIn K (He.ga K i.up) (.type "type") && decide (PySem.W.specialIn K (.ref (He.ga K i.up)) "__getattribute__" = some (some (.builtin "type.__getattribute__"))) && (match PySem.W.findCls K (.ref (He.ga K i.up)) (.type "type") "__init__" with
    | some (.val (.builtin b)) => b == "ValueError.__init__"
    | _ => false)
def Tx.ex (t : Tx) (K : PySem.W.Frag) : Bool := (t.eks.all fun k => decide (k = .mal) || xfB K (He.ga K (ekName k))) && t.inis.all fun i => iniB K i
def Tx.ok (t : Tx) : Bool := t.eks.all fun k => t.here.contains k && (decide (k = .mal) || t.inis.any fun i => decide (i.k = k))
/-- what is looked at: facts, defs, and more; the classes' statics too -/
structure Says (fa : List He.Fa) (fn : List He.DefD) (ex : PySem.W.Frag → Bool) (K : PySem.W.Frag) : Prop where
  d : He.SaysD fa fn K
  more : ex K = true
def frY (g : Addr → Option Obj) (n : Nat) : PySem.W.Frag := He.frT g (He.asD g n ++ [cStatics])
def obsY (n : Nat) (fa : List He.Fa) (fn : List He.DefD) (ex : PySem.W.Frag → Bool) (g : Addr → Option Obj) : He.AlD × Bool := (He.obsD fa fn (frY g n), ex (frY g n))
def hookY (n : Nat) (fa : List He.Fa) (fn : List He.DefD) (ex : PySem.W.Frag → Bool) : PySem.W.Hook where
  α := He.AlD × Bool
  obs := fun s => obsY n fa fn ex s.heap.get?
  val := fun _ => (He.valD fn, true)
  says := fun _ h => ∃ K : PySem.W.Frag, K.In h ∧ Says fa fn ex K
  of := fun _ _ e => ⟨_, He.frT_in, ⟨congrArg (fun z : He.AlD × Bool => z.1) e, congrArg (fun z : He.AlD × Bool => z.2) e⟩⟩
  keeps := fun _ _ _ ⟨K, hK, c⟩ k => ⟨K, PySem.W.Frag.In.keeps hK k, c⟩
abbrev Tx.hook (t : Tx) (n : Nat) : PySem.W.Hook := hookY n t.fa t.defs t.ex
def Tx.ob (t : Tx) (n : Nat) (s : PySem.W.SharedT) : He.AlD × Bool := obsY n t.fa t.defs t.ex (HandSHeadRun.getT s)
theorem Tx.ob_eq (t : Tx) (n : Nat) (s : PySem.W.SharedT) : t.ob n s = (t.hook n).obs s.abs := by
  have e : HandSHeadRun.getT s = s.abs.heap.get? := funext (HandSHeadRun.getT_eq s)
  unfold Tx.ob
  rw [e]
  rfl
/-- its arguments are its parameters -/
def BindOk (f : Fd) : Prop := ∀ (kV doc pm : Value) (an : Option Addr) (cdv ct : Value) (us : List Value), us.length = f.ps.length → bindArgs (PySem.W.fnOf f.nm f.nm f.params f.body f.scope .none kV doc pm an cdv ct) ⟨us, []⟩ = pure (f.ps.zip us)
/-- what is said of such an __init__ by its text -/
structure IniTx (i : Ini) : Prop where
  bind : ∀ (kV doc pm : Value) (an : Option Addr) (cdv ct : Value) (us : List Value), us.length = (iniN i.y).length → bindArgs (PySem.W.fnOf "__init__" i.qual i.params i.body i.scope .none kV doc pm an cdv ct) ⟨us, []⟩ = pure ((iniN i.y).zip us)
  sc : C8.scC (iniN i.y) (iniN i.y) i.scope = true
  body : ∀ (X : Cx) (B : Addr), X.env.scope = i.scope → X.N = iniN i.y → X.mg i.up = some (.ref B) → PySem.W.readsIn X.K B (.type "type") = true → PySem.W.specialIn X.K (.ref B) "__getattribute__" = some (some (.builtin "type.__getattribute__")) →
    PySem.W.findCls X.K (.ref B) (.type "type") "__init__" = some (.val (.builtin "ValueError.__init__")) → PSs X i.body (tIni X.K (ekField i.k))
section
variable {P : Program} {w : World} {K : PySem.W.Frag} {mg : Str → Option Value} {base h : Heap} {t : Tx}
theorem mem_bf (f : BF) : f ∈ bfAll := by cases f <;> decide
theorem mem_ty (f : TyN) : f ∈ tyAll := by cases f <;> decide
theorem mem_ek (k : EK) : k ∈ ekAll := by cases k <;> decide
theorem wok_of (X : K.In h) (G : h.Ns mainGlobals mg) (c : Says t.fa t.defs t.ex K) (hok : t.ok = true) (hb : ∀ f ∈ t.T, BindOk f) (hin' : ∀ i ∈ t.inis, IniTx i) : Wok P K mg t.T t.ek t.gi := by
  have fact : ∀ {f : He.Fa}, f ∈ t.fa → f.ok K = true := fun hf => c.d.facts hf
  have f1 : ∀ f ∈ t.T, mg f.nm = some (.ref (He.ga K f.nm)) := fun f hf => He.glo_ok X G (fact (List.mem_append_left _ (List.mem_map.mpr ⟨f, hf, rfl⟩)))
  have f2 : ∀ f, mg (bfName f) = none := fun f => He.free_ok X G (fact (List.mem_append_right _ (List.mem_append_left _ (List.mem_map.mpr ⟨f, mem_bf f, rfl⟩))))
  have f3 : ∀ f, mg (tyName f) = none := fun f => He.free_ok X G (fact (List.mem_append_right _ (List.mem_append_right _ (List.mem_append_left _ (List.mem_map.mpr ⟨f, mem_ty f, rfl⟩)))))
  have f4 : ∀ x : He.Fa, x ∈ [He.Fa.free "isinstance", He.Fa.free "range", He.Fa.free "zip", He.Fa.free "enumerate"] → x.ok K = true := fun x hx => fact (List.mem_append_right _ (List.mem_append_right _ (List.mem_append_right _ (List.mem_append_left _ hx))))
  have f5 : ∀ p ∈ t.gis, ∃ u, mg p.1 = some (.int p.2 u) := fun p hp => He.int_ok X G (fact (List.mem_append_right _ (List.mem_append_right _ (List.mem_append_right _ (List.mem_append_right _ (List.mem_append_left _ (List.mem_map.mpr ⟨p, hp, rfl⟩)))))))
  have f6 : ∀ k, (if t.here.contains k then He.Fa.glo (ekName k) else .free (ekName k)).ok K = true := fun k => fact (List.mem_append_right _ (List.mem_append_right _ (List.mem_append_right _ (List.mem_append_right _ (List.mem_append_right _ (List.mem_append_left _ (List.mem_map.mpr ⟨k, mem_ek k, rfl⟩)))))))
  have f7 : ∀ k ∈ t.here, ∀ k' ∈ t.eks, PySem.W.exmOne K (.ref (He.ga K (ekName k))) (.ref (He.ga K (ekName k'))) = some (decide (k = k')) := fun k hk k' hk' => He.exm_ok (fact (List.mem_append_right _ (List.mem_append_right _ (List.mem_append_right _ (List.mem_append_right _ (List.mem_append_right _ (List.mem_append_right _ (List.mem_append_left _
    (List.mem_flatMap.mpr ⟨k, hk, List.mem_map.mpr ⟨k', hk', rfl⟩⟩)))))))))
  have f8 : ∀ k ∈ t.eks, (if k = .mal then He.Fa.exc (ekName k) else .noat (ekName k) (ekField k)).ok K = true := fun k hk => fact (List.mem_append_right _ (List.mem_append_right _ (List.mem_append_right _ (List.mem_append_right _ (List.mem_append_right _ (List.mem_append_right _ (List.mem_append_right _
    (List.mem_append_left _ (List.mem_map.mpr ⟨k, hk, rfl⟩)))))))))
  have f9 : ∀ i ∈ t.inis, mg i.up = some (.ref (He.ga K i.up)) := fun i hi => He.glo_ok X G (fact (List.mem_append_right _ (List.mem_append_right _ (List.mem_append_right _ (List.mem_append_right _ (List.mem_append_right _ (List.mem_append_right _ (List.mem_append_right _
    (List.mem_append_right _ (List.mem_map.mpr ⟨i, hi, rfl⟩))))))))))
  have more := Bool.and_eq_true_iff.mp c.more
  have here : ∀ k, t.ek k = true → k ∈ t.eks := fun k hk => List.contains_iff_mem.mp hk
  have hin : ∀ k ∈ t.eks, t.here.contains k = true := fun k hk => (Bool.and_eq_true_iff.mp (List.all_eq_true.mp hok k hk)).1
  have gl : ∀ k, t.here.contains k = true → mg (ekName k) = some (.ref (He.ga K (ekName k))) := fun k hk => by
    have := f6 k
    rw [if_pos hk] at this
    exact He.glo_ok X G this
  have fr : ∀ k, ¬ t.here.contains k = true → mg (ekName k) = none := fun k hk => by
    have := f6 k
    rw [if_neg hk] at this
    exact He.free_ok X G this
  refine ⟨f2, f3, He.free_ok X G (f4 _ (by simp)), He.free_ok X G (f4 _ (by simp)), He.free_ok X G (f4 _ (by simp)), He.free_ok X G (f4 _ (by simp)), fun x i hx => f5 (x, i) (PySem.mem_of_lookup hx), fun hm => ?_, fun k hk => ?_, fun k hk hne => ?_, fun k k' C C' hk h1 h2 => ?_, fun n hn => ?_⟩
  · have hmem := here _ hm
    have q := f8 _ hmem
    rw [if_pos rfl] at q
    obtain ⟨q1, q2, q3, q4⟩ := He.exc_ok q
    exact ⟨_, gl .mal (hin _ hmem), q1, q2, q3, q4⟩
  · have hmem := here _ hk
    refine ⟨_, gl k (hin _ hmem), fun hne => ?_⟩
    have q := f8 _ hmem
    rw [if_neg hne] at q
    refine ⟨?_, He.eqO_ok q⟩
    have := List.all_eq_true.mp more.1 k hmem
    rw [Bool.or_eq_true, decide_eq_true_eq] at this
    exact xfB_ok (this.resolve_left hne)
  · have hmem := here _ hk
    have h2 := (Bool.and_eq_true_iff.mp (List.all_eq_true.mp hok k hmem)).2
    rw [Bool.or_eq_true, decide_eq_true_eq] at h2
    obtain ⟨i, hi, hik⟩ := List.any_eq_true.mp (h2.resolve_left hne)
    have hik : i.k = k := of_decide_eq_true hik
    subst hik
    have q := List.all_eq_true.mp more.2 i hi
    unfold iniB at q
    simp only [Bool.and_eq_true, decide_eq_true_eq] at q
    obtain ⟨⟨⟨⟨⟨q1, q2⟩, q3⟩, q4⟩, q5⟩, q6⟩ := q
    have q6 : PySem.W.findCls K (.ref (He.ga K i.up)) (.type "type") "__init__" = some (.val (.builtin "ValueError.__init__")) := by
      split at q6
      · rename_i b hb
        rw [hb, beq_iff_eq.mp q6]
      · cases q6
    have q7 := f8 _ hmem
    rw [if_neg hne] at q7
    obtain ⟨fd, F⟩ := c.d.defs (d := ⟨(ekName i.k, some "__init__"), "__init__", i.qual, i.params, i.body, i.scope, [], []⟩) (List.mem_append_right _ (List.mem_map.mpr ⟨i, hi, rfl⟩))
    have it := hin' i hi
    refine ⟨_, _, fd, "__init__", i.qual, i.y, i.params, i.body, i.scope, gl i.k (hin _ hmem), oexB_ok q1, q2, q3, F, F.bindsN it.bind, C8.fnScope_by it.sc, He.eqO_ok q7, fun Y hK hmg hsc hN => ?_⟩
    subst hK hmg
    exact it.body Y _ hsc hN (f9 i hi) q4 q5 q6
  · have hmem := here _ hk
    rw [gl k' (hin _ hmem)] at h2
    cases h2
    by_cases z : t.here.contains k = true
    · rw [gl k z] at h1
      cases h1
      exact f7 k (List.contains_iff_mem.mp z) k' hmem
    · rw [fr k z] at h1
      cases h1
  · have hT : fdAt t.T n = t.T[n] := by
      unfold fdAt
      rw [List.getElem?_eq_getElem hn]
      rfl
    have hm : t.T[n] ∈ t.T := List.getElem_mem hn
    rw [hT]
    obtain ⟨fd, F⟩ := c.d.defs (d := ⟨(t.T[n].nm, none), t.T[n].nm, t.T[n].nm, t.T[n].params, t.T[n].body, t.T[n].scope, [], []⟩) (List.mem_append_left _ (List.mem_map.mpr ⟨_, hm, rfl⟩))
    exact ⟨_, fd, f1 _ hm, F, F.bindsN (hb _ hm)⟩
/-- the law's spec: a script of ints -/
def lawSp : Spec := fun ds P _ => ∃ ns : List Int, ns.length ≤ 63 ∧ (∀ z ∈ ns, Builtin.Int.intBits z ≤ 1048576) ∧ ds = [.frz (ns.map D.int)] ∧ P (.bl true) .non
theorem reps_ints {R : RC} {H : Hp} : ∀ ns : List Int, Reps R H (ns.map V.int) (ns.map D.int)
  | [] => .nil
  | n :: ns => .cons (.int n) (reps_ints ns)
theorem law_at {l : PySem.W.OpenLaw} {x : Str} {fa : Addr} {i k : Nat} (X : K.In h) (G : h.Ns mainGlobals mg) (c : Says t.fa t.defs t.ex K) (hok : t.ok = true) (hb : ∀ f ∈ t.T, BindOk f) (hin' : ∀ i ∈ t.inis, IniTx i)
    (hc : ∀ f ∈ t.T, chk t.T t.ek t.gi f = true) (hg : ∀ f ∈ t.T, Good t.T t.ek f) (hi : i < t.T.length) (hsp : t.T[i].sp = lawSp) (hio : t.T[i].io = false) (hfr : t.T[i].fr = false) (hps : t.T[i].ps = [x]) (hlv : t.T[i].lv = k) (hmg : mg t.T[i].nm = some (.ref fa)) :
    LamX.LawAtS l w K (L2.CX l.prog w) k 63 x mg fa h := by
  have Wk : Wok l.prog K mg t.T t.ek t.gi := wok_of X G c hok hb hin'
  have hm : t.T[i] ∈ t.T := List.getElem_mem hi
  have hT : ∀ n (hn : n < t.T.length), fdAt t.T n = t.T[n] := fun n hn => by
    unfold fdAt
    rw [List.getElem?_eq_getElem hn]
    rfl
  obtain ⟨fd, F⟩ := c.d.defs (d := ⟨(t.T[i].nm, none), t.T[i].nm, t.T[i].nm, t.T[i].params, t.T[i].body, t.T[i].scope, [], []⟩) (List.mem_append_left _ (List.mem_map.mpr ⟨_, hm, rfl⟩))
  have bA := F.bindsA (hb _ hm)
  have ega : He.fAd K (t.T[i].nm, none) = fa := by
    have e1 : mg t.T[i].nm = some (.ref (He.ga K t.T[i].nm)) := He.glo_ok X G (c.d.facts (List.mem_append_left _ (List.mem_map.mpr ⟨_, hm, rfl⟩)))
    rw [hmg] at e1
    exact (Value.ref.inj (Option.some.inj e1)).symm
  refine ⟨fd, [], toSp (rcT K mg t.T t.ek) false false lawSp, by simp, by simp, by simp, fun s u => ?_, fun H a ns hlen hbits _ hS => ?_, fun base _ _ _ => ?_⟩
  · have := bA s [u] (by rw [hps]; rfl)
    rw [hps] at this
    exact this
  · refine ⟨fun _ => False, [.frz (ns.map D.int)], fun d _ => d = .bl true, fun _ => False, fun b z => z.elim, ⟨ns, hlen, hbits, rfl, rfl⟩, fun _ => ⟨.cons (.frz (show SqL K (hz (fun _ => False) H) a (ns.map V.int) from ?_) (reps_ints ns)) .nil, fun d e v H' hd _ hv _ => ?_, fun x c dd H' z => z.elim⟩, fun z => by cases z⟩
    · have : hz (fun _ => False) H = H := by
        funext b
        unfold hz
        rw [if_neg (fun z => z)]
      rw [this]
      exact hS
    · subst hd
      cases hv
      rfl
  · have key : FdOk l.prog w K mg base t.T t.ek t.T[i] (He.fAd K (t.T[i].nm, none)) fd := fd_ok Wk F (hc _ hm) (hg _ hm) fun n hn => by
      have all := fns_ok (w := w) (base := base) Wk (fun n hn => by rw [hT n hn]; exact hc _ (List.getElem_mem hn)) (fun n hn => by rw [hT n hn]; exact hg _ (List.getElem_mem hn))
      by_cases z : n < t.T.length
      · exact all _ n z (Nat.le_refl _)
      · exfalso
        have : fdAt t.T n = botF := by
          unfold fdAt
          rw [List.getElem?_eq_none (by omega)]
          rfl
        rw [this] at hn
        have h2 := hc _ hm
        unfold chk at h2
        simp only [Bool.or_eq_true, Bool.and_eq_true, decide_eq_true_eq] at h2
        have : botF.lv = 1000000 := rfl
        omega
    unfold FdOk at key
    rw [ega, hsp, hio, hfr, hps, hlv] at key
    exact key
theorem noCX {w : World} {H : Hp} {s s' : Shared} {e : Value} (h : L2.CX P w [] H s (fun _ _ _ => False) e s') : False := by
  obtain ⟨_, _, _, _, _, _, _, _, _, _, _, _, z⟩ := h
  exact z
end
end Pd

/-! Rules to reckon with what is asked: steps, loops. -/
namespace Pd
open L2 PyProof.Rows PySem.Spec PySem

abbrev poV (P : D → D → Prop) (Ex : Exn → Prop) : Po := ⟨fun _ => P .non .non, fun d _ _ => P d .non, fun _ => False, fun _ => False, fun x _ => Ex x⟩
abbrev poF (P : D → D → Prop) (Ex : Exn → Prop) : Po := ⟨fun _ => P .non .non, fun d b _ => (isMut d = true → b = true) ∧ P d .non, fun _ => False, fun _ => False, fun x _ => Ex x⟩
abbrev poI (P : D → D → Prop) : Po := ⟨fun env => ∃ d1, at_ env 0 = .own d1 ∧ P .non d1, fun d _ env => ∃ d1, at_ env 0 = .own d1 ∧ P d d1, fun _ => False, fun _ => False, fun _ _ => False⟩
section
variable {T : List Fd} {ek : EK → Bool} {f : Fd}
theorem goodV (h1 : f.io = false) (h2 : f.fr = false) (h3 : f.lv ≠ 0) (h : ∀ ds P Ex, f.sp ds P Ex → ds.length = f.ps.length ∧ wS (gxOf T ek f) f.b (vals ds (f.N.length - ds.length)) (poV P Ex)) : Good T ek f := fun ds P Ex hs => by
  obtain ⟨a, b⟩ := h ds P Ex hs
  refine ⟨h3, a, ?_⟩
  have e1 : env0 f ds = vals ds (f.N.length - ds.length) := by unfold env0; rw [h1]; rfl
  have e2 : po0 f P Ex = poV P Ex := by
    unfold po0
    rw [h1, h2]
    simp [poV]
  rw [e1, e2]
  exact b
theorem goodF (h1 : f.io = false) (h2 : f.fr = true) (h3 : f.lv ≠ 0) (h : ∀ ds P Ex, f.sp ds P Ex → ds.length = f.ps.length ∧ wS (gxOf T ek f) f.b (vals ds (f.N.length - ds.length)) (poF P Ex)) : Good T ek f := fun ds P Ex hs => by
  obtain ⟨a, b⟩ := h ds P Ex hs
  refine ⟨h3, a, ?_⟩
  have e1 : env0 f ds = vals ds (f.N.length - ds.length) := by unfold env0; rw [h1]; rfl
  have e2 : po0 f P Ex = poF P Ex := by
    unfold po0
    rw [h1, h2]
    simp [poF]
  rw [e1, e2]
  exact b
theorem goodI (h1 : f.io = true) (h3 : f.lv ≠ 0) (h : ∀ ds P Ex, f.sp ds P Ex → ∃ d0 ds', ds = d0 :: ds' ∧ ds.length = f.ps.length ∧ wS (gxOf T ek f) f.b (.own d0 :: vals ds' (f.N.length - ds.length)) (poI P)) : Good T ek f := fun ds P Ex hs => by
  obtain ⟨d0, ds', rfl, a, b⟩ := h ds P Ex hs
  refine ⟨h3, a, ?_⟩
  have e1 : env0 f (d0 :: ds') = .own d0 :: vals ds' (f.N.length - (d0 :: ds').length) := by unfold env0; rw [h1]; rfl
  have e2 : po0 f P Ex = poI P := by
    unfold po0
    rw [h1]
    rfl
  rw [e1, e2]
  exact b
end
section
variable {G : Gx} {env : Loca} {P : Po} {r : S}
theorem st_nil : wS G .nil env P = P.nx env := rfl
theorem st_expr {e : E} : wS G (.seq (.expr e) r) env P = wE G e env (fun _ env1 => wS G r env1 P) P.ex := rfl
theorem st_asg {i : Nat} {e : E} : wS G (.seq (.asg i e) r) env P = wE G e env (fun d env1 => G.iop ≠ some i ∧ wS G r (put env1 i (cellOf G.tb e d)) P) P.ex := rfl
theorem st_asgl {i : Nat} {e : E} : wS G (.seq (.asgl i e) r) env P = wE G e env (fun d env1 => G.iop ≠ some i ∧ wS G r (put env1 i (cellOf G.tb e d)) P) P.ex := rfl
theorem st_unp {is : List Nat} {e : E} : wS G (.seq (.unp is e) r) env P = wE G e env (fun d env1 => (∀ i ∈ is, G.iop ≠ some i) ∧ ∃ ds, d = .tup ds ∧ ds.length = is.length ∧ wS G r (putAll env1 is ds) P) P.ex := rfl
theorem st_par {is : List Nat} {es : E} : wS G (.seq (.par is es) r) env P = wCs G es env (fun cs env1 => (∀ i ∈ is, G.iop ≠ some i) ∧ wS G r (putCs env1 is cs) P) P.ex := rfl
theorem st_app {i : Nat} {e : E} : wS G (.seq (.app i e) r) env P = (isOwnL (at_ env i) = true ∧ wE G e env (fun d env1 => match at_ env1 i with
    | .own (.lst xs) => xs.length < sizeLine ∧ wS G r (put env1 i (.own (.lst (xs ++ [d])))) P
    | _ => False) P.ex) := rfl
theorem st_seti {i : Nat} {a e : E} : wS G (.seq (.seti i a e) r) env P = wE G e env (fun d env1 => isOwnL (at_ env1 i) = true ∧ wE G a env1 (fun j env2 => match at_ env2 i, j with
    | .own (.lst xs), .int k => ∃ n, ixN xs.length k = some n ∧ wS G r (put env2 i (.own (.lst (xs.set n d)))) P
    | _, _ => False) P.ex) P.ex := rfl
theorem st_ret {e : E} : wS G (.seq (.ret e) r) env P = wRet G e env P := by cases e <;> rfl
theorem st_retn : wS G (.seq .retn r) env P = P.rt .non false env := rfl
theorem st_ife {c : E} {a b : S} : wS G (.seq (.ife c a b) r) env P = wT G c env (fun t env1 => if t = true then wS G a env1 ⟨fun env1 => wS G r env1 P, P.rt, P.bk, P.ct, P.ex⟩ else wS G b env1 ⟨fun env1 => wS G r env1 P, P.rt, P.bk, P.ct, P.ex⟩) P.ex := rfl
theorem st_brk : wS G (.seq .brk r) env P = P.bk env := rfl
theorem st_cnt : wS G (.seq .cnt r) env P = P.ct env := rfl
theorem st_rmal {m : Str} : wS G (.seq (.rmal m) r) env P = P.ex .mal env := rfl
theorem st_tr {b hs : S} : wS G (.seq (.tr b hs) r) env P = wS G b env ⟨fun env1 => wS G r env1 P, P.rt, P.bk, P.ct, fun x env1 => wHnd G hs x env1 ⟨fun env1 => wS G r env1 P, P.rt, P.bk, P.ct, P.ex⟩⟩ := rfl
/-- a loop's turns, and what stands behind -/
def forS (G : Gx) (is : List Nat) (tp : Bool) (b r : S) (ds : List D) (env1 : Loca) (P : Po) : Prop := forLoop G.iop (fun d env2 P' => wTgt is tp d env2 fun env3 => wS G b env3 P') ds env1 ⟨fun env1 => wS G r env1 P, P.rt, P.bk, P.ct, P.ex⟩
theorem st_for {is : List Nat} {tp : Bool} {it : E} {b : S} : wS G (.seq (.for_ is tp it b) r) env P = wI G it env (fun ds env1 => (∀ i ∈ is, G.iop ≠ some i) ∧ forS G is tp b r ds env1 P) P.ex := rfl
/-- what stands behind, kept closed -/
def wN (G : Gx) (r : S) (env : Loca) (P : Po) : Prop := wS G r env P
theorem wN_eq : wN G r env P = wS G r env P := rfl
theorem sn_expr {e : E} : wS G (.seq (.expr e) r) env P = wE G e env (fun _ env1 => wN G r env1 P) P.ex := rfl
theorem sn_asg {i : Nat} {e : E} : wS G (.seq (.asg i e) r) env P = wE G e env (fun d env1 => G.iop ≠ some i ∧ wN G r (put env1 i (cellOf G.tb e d)) P) P.ex := rfl
theorem sn_asgl {i : Nat} {e : E} : wS G (.seq (.asgl i e) r) env P = wE G e env (fun d env1 => G.iop ≠ some i ∧ wN G r (put env1 i (cellOf G.tb e d)) P) P.ex := rfl
theorem sn_unp {is : List Nat} {e : E} : wS G (.seq (.unp is e) r) env P = wE G e env (fun d env1 => (∀ i ∈ is, G.iop ≠ some i) ∧ ∃ ds, d = .tup ds ∧ ds.length = is.length ∧ wN G r (putAll env1 is ds) P) P.ex := rfl
theorem sn_par {is : List Nat} {es : E} : wS G (.seq (.par is es) r) env P = wCs G es env (fun cs env1 => (∀ i ∈ is, G.iop ≠ some i) ∧ wN G r (putCs env1 is cs) P) P.ex := rfl
theorem sn_app {i : Nat} {e : E} : wS G (.seq (.app i e) r) env P = (isOwnL (at_ env i) = true ∧ wE G e env (fun d env1 => match at_ env1 i with
    | .own (.lst xs) => xs.length < sizeLine ∧ wN G r (put env1 i (.own (.lst (xs ++ [d])))) P
    | _ => False) P.ex) := rfl
theorem sn_seti {i : Nat} {a e : E} : wS G (.seq (.seti i a e) r) env P = wE G e env (fun d env1 => isOwnL (at_ env1 i) = true ∧ wE G a env1 (fun j env2 => match at_ env2 i, j with
    | .own (.lst xs), .int k => ∃ n, ixN xs.length k = some n ∧ wN G r (put env2 i (.own (.lst (xs.set n d)))) P
    | _, _ => False) P.ex) P.ex := rfl
theorem sn_ife {c : E} {a b : S} : wS G (.seq (.ife c a b) r) env P = wT G c env (fun t env1 => if t = true then wS G a env1 ⟨fun env1 => wN G r env1 P, P.rt, P.bk, P.ct, P.ex⟩ else wS G b env1 ⟨fun env1 => wN G r env1 P, P.rt, P.bk, P.ct, P.ex⟩) P.ex := rfl
theorem sn_tr {b hs : S} : wS G (.seq (.tr b hs) r) env P = wS G b env ⟨fun env1 => wN G r env1 P, P.rt, P.bk, P.ct, fun x env1 => wHnd G hs x env1 ⟨fun env1 => wN G r env1 P, P.rt, P.bk, P.ct, P.ex⟩⟩ := rfl
theorem whl_rule {c : E} {b : S} (I : Nat → Loca → Prop) (h0 : ∃ n env', Weak G.iop env env' ∧ I n env')
    (step : ∀ n env, I n env → wT G c env (fun t env1 => if t = true then wS G b env1 ⟨fun env' => ∃ env'' m, Weak G.iop env' env'' ∧ m < n ∧ I m env'', P.rt, fun env1 => wS G r env1 P, fun env' => ∃ env'' m, Weak G.iop env' env'' ∧ m < n ∧ I m env'', P.ex⟩ else wS G r env1 P) P.ex) :
    wS G (.seq (.whl c b) r) env P := ⟨I, h0, step⟩
theorem for_rule {iop : Option Nat} {turn : D → Loca → Po → Prop} (I : List D → Loca → Prop)
    (step : ∀ d rest env (nx : Loca → Prop), I (d :: rest) env → (∀ env' env'', Weak iop env' env'' → I rest env'' → nx env') → turn d env ⟨nx, P.rt, P.nx, nx, P.ex⟩) (done : ∀ env, I [] env → P.nx env) :
    ∀ (ds : List D) (env : Loca), I ds env → forLoop iop turn ds env P
  | [], env, h => done env h
  | d :: ds, env, h => step d ds env _ h fun env' env'' w i => ⟨env'', w, for_rule I step done ds env'' i⟩
theorem lc_rule {turn : D → Loca → (Option D → Loca → Prop) → Prop} {Q : List D → Loca → Prop} (I : List D → List D → Loca → Prop)
    (step : ∀ d rest acc env (k : Option D → Loca → Prop), I (d :: rest) acc env → (∀ y env', acc.length < sizeLine → I rest (acc ++ [y]) env' → k (some y) env') → (∀ env', I rest acc env' → k none env') → turn d env k) (done : ∀ acc env, I [] acc env → Q acc env) :
    ∀ (ds acc : List D) (env : Loca), I ds acc env → lcLoop turn ds acc env Q
  | [], acc, env, h => done acc env h
  | d :: ds, acc, env, h => step d ds acc env _ h (fun y env' hl i => ⟨hl, lc_rule I step done ds _ env' i⟩) fun env' i => lc_rule I step done ds acc env' i
end
section
variable {G : Gx} {env : Loca} {Q : D → Loca → Prop} {X : Exn → Loca → Prop}
theorem e_var {i : Nat} : wE G (.var i) env Q X = (match at_ env i with
    | .val d => Q d env
    | .own d => G.iop ≠ some i ∧ Q d (put env i (.val d))
    | .emp => False) := rfl
theorem e_int {i : Int} : wE G (.int i) env Q X = (Q (.int i) env) := rfl
theorem e_bl {b : Bool} : wE G (.bl b) env Q X = (Q (.bl b) env) := rfl
theorem e_non  : wE G (.non ) env Q X = (Q .non env) := rfl
theorem e_str {s : Str} : wE G (.str s) env Q X = (Q (.str s) env) := rfl
theorem e_fnv {n : Nat} : wE G (.fnv n) env Q X = (Q (.fn n) env) := rfl
theorem e_gint {y_ : Str} {i : Int} : wE G (.gint y_ i) env Q X = (Q (.int i) env) := rfl
theorem e_bin {o : BO} {a : E} {b : E} : wE G (.bin o a b) env Q X = (pk a (wE G a) env (fun x env1 => pk b (wE G b) env1 (fun y env2 => wBin o (x.rd env2) (y.rd env2) fun d => Q d env2) X) X) := rfl
theorem e_neg {a : E} : wE G (.neg a) env Q X = (wE G a env (fun d env1 => match d with
    | .int i => Q (.int (-i)) env1
    | _ => False) X) := rfl
theorem e_not {a : E} : wE G (.not a) env Q X = (wE G a env (fun d env1 => match d with
    | .bl b => Q (.bl (!b)) env1
    | _ => False) X) := rfl
theorem e_cmp {o : CO} {a : E} {b : E} : wE G (.cmp o a b) env Q X = (pk a (wE G a) env (fun x env1 => pk b (wE G b) env1 (fun y env2 => wCmp o (x.rd env2) (y.rd env2) fun c => Q (.bl c) env2) X) X) := rfl
theorem e_chn {o : CO} {o' : CO} {a : E} {b : E} {c : E} : wE G (.chn o o' a b c) env Q X = (wE G a env (fun x env1 => wE G b env1 (fun y env2 => wCmp o x y fun r => if r = true then wE G c env2 (fun z env3 => wCmp o' y z fun r' => Q (.bl r') env3) X else Q (.bl false) env2) X) X) := rfl
theorem e_isn {a : E} : wE G (.isn a) env Q X = (wE G a env (fun d env1 => Q (.bl (isNonD d)) env1) X) := rfl
theorem e_ntn {a : E} : wE G (.ntn a) env Q X = (wE G a env (fun d env1 => Q (.bl (!isNonD d)) env1) X) := rfl
theorem e_and {es : E} : wE G (.and es) env Q X = (wAnd G es env Q X) := rfl
theorem e_or {es : E} : wE G (.or es) env Q X = (wOr G es env Q X) := rfl
theorem e_ite {c : E} {a : E} {b : E} : wE G (.ite c a b) env Q X = (wT G c env (fun t env1 => if t = true then wE G a env1 Q X else wE G b env1 Q X) X) := rfl
theorem e_tup {es : E} : wE G (.tup es) env Q X = (wA G es env (fun ds env1 => Q (.tup ds) env1) X) := rfl
theorem e_lst {es : E} : wE G (.lst es) env Q X = (wA G es env (fun ds env1 => Q (.lst ds) env1) X) := rfl
theorem e_call {n : Nat} {es : E} : wE G (.call n es) env Q X = (wA G es env (fun ds env1 => G.sp n ds (fun d _ => Q d env1) fun x => X x env1) X) := rfl
theorem e_cio {n : Nat} {i : Nat} {es : E} : wE G (.cio n i es) env Q X = (isOwn (at_ env i) = true ∧ wA G es env (fun ds env1 => match at_ env1 i with
    | .own d0 => G.sp n (d0 :: ds) (fun d d1 => Q d (put env1 i (.own d1))) fun _ => False
    | _ => False) X) := rfl
theorem e_clv {i : Nat} {es : E} : wE G (.clv i es) env Q X = (∃ n, at_ env i = .val (.fn n) ∧ G.tb.lv n < G.k ∧ G.tb.io n = false ∧ wA G es env (fun ds env1 => G.sp n ds (fun d _ => Q d env1) fun x => X x env1) X) := rfl
theorem e_blt {f : BF} {es : E} : wE G (.blt f es) env Q X = (wP G es env (fun xs env1 => wBlt f (xs.map fun x => x.rd env1) fun d => Q d env1) X) := rfl
theorem e_isi {a : E} {T : TyN} : wE G (.isi a T) env Q X = (pk a (wE G a) env (fun x env1 => hasTy (x.rd env1) = true ∧ Q (.bl (tyIs (x.rd env1) T)) env1) X) := rfl
theorem e_ix {a : E} {b : E} : wE G (.ix a b) env Q X = (pk a (wE G a) env (fun x env1 => wE G b env1 (fun y env2 => wIx (x.rd env2) y fun d => Q d env2) X) X) := rfl
theorem e_slc {a : E} {lo : E} {hi : E} : wE G (.slc a lo hi) env Q X = (pk a (wE G a) env (fun x env1 => wA G lo env1 (fun l env2 => wOpt l fun i => wA G hi env2 (fun h env3 => wOpt h fun j => wSlc (x.rd env3) i j fun d => Q d env3) X) X) X) := rfl
theorem e_rev {a : E} : wE G (.rev a) env Q X = (pk a (wE G a) env (fun x env1 => match x.rd env1 with
    | .lst xs => Q (.lst xs.reverse) env1
    | .frz xs => Q (.lst xs.reverse) env1
    | .tup xs => Q (.tup xs.reverse) env1
    | _ => False) X) := rfl
theorem e_lrng {es : E} : wE G (.lrng es) env Q X = (wA G es env (fun ds env1 => ∃ p, rngE ds = some p ∧ RgOk p.1 p.2 ∧ Q (.lst (rngD p.1 p.2)) env1) X) := rfl
theorem i_rng {es : E} {Q : List D → Loca → Prop} : wI G (.rng es) env Q X = wA G es env (fun ds env1 => ∃ p, rngE ds = some p ∧ RgB p.1 ∧ RgB p.2 ∧ Q (rngD p.1 p.2) env1) X := rfl
theorem i_seq {e : E} {Q : List D → Loca → Prop} : wI G (.seq e) env Q X = wE G e env (fun d env1 => ∃ ds, seqD d = some ds ∧ Q ds env1) X := rfl
theorem i_zip {es : E} {Q : List D → Loca → Prop} : wI G (.zip es) env Q X = wA G es env (fun ds env1 => ∃ p, zipD ds = some p ∧ Q (zipT p.1 p.2) env1) X := rfl
theorem i_enm {es : E} {Q : List D → Loca → Prop} : wI G (.enm es) env Q X = wA G es env (fun ds env1 => ∃ p, enmD ds = some p ∧ Q (enmT 0 p) env1) X := rfl
/-- a comprehension's turns -/
def lcS (G : Gx) (is : List Nat) (tp : Bool) (it c elt : E) (ds : List D) (env1 : Loca) (Q : D → Loca → Prop) : Prop :=
  lcLoop (fun d envt k => kpE it env1 (wipeC envt is) ∧ wTgt is tp d (wipeC envt is) fun env2 =>
        wC G c env2 fun r env3 => if r = true then wE G elt env3 (fun y env4 => k (some y) env4) (fun _ _ => False) else k none env3) ds [] env1
        fun out envf => kpE it env1 (wipeC envf is) ∧ Q (.lst out) (backC env1 (wipeC envf is) is)
theorem e_lc {is : List Nat} {tp : Bool} {it : E} {c : E} {elt : E} : wE G (.lc is tp it c elt) env Q X = (wI G it env (fun ds env1 => kpN it is ∧ (∀ i ∈ is, ∀ d, at_ env1 i ≠ .own d) ∧ (∀ i ∈ is, G.iop ≠ some i) ∧ lcS G is tp it c elt ds env1 Q) X) := rfl
theorem e_met {m : MF} {o : E} {es : E} : wE G (.met m o es) env Q X = (wE G o env (fun d env1 => wP G es env1 (fun xs env2 => wMet m d (xs.map fun x => x.rd env2) fun d => Q d env2) X) X) := rfl
end
section
variable {i j n : Int} {k : D → Prop} {kb : Bool → Prop} {ko : Option Int → Prop} {x y : Str} {xs ys : List D} {d e : D} {b : Bool} {lo hi : Option Int}
theorem bin_add : wBin .add (.int i) (.int j) k = k (.int (i + j)) := rfl
theorem bin_sub : wBin .sub (.int i) (.int j) k = k (.int (i - j)) := rfl
theorem bin_mul : wBin .mul (.int i) (.int j) k = (MulOk i j ∧ k (.int (i * j))) := rfl
theorem bin_fdiv : wBin .fdiv (.int i) (.int j) k = (DivOk i j ∧ k (.int (i.fdiv j))) := rfl
theorem bin_mod : wBin .mod (.int i) (.int j) k = (j ≠ 0 ∧ k (.int (i.fmod j))) := rfl
theorem bin_adds : wBin .add (.str x) (.str y) k = (x.length + y.length ≤ sizeLine ∧ k (.str (x ++ y))) := rfl
theorem bin_addt : wBin .add (.tup xs) (.tup ys) k = (xs.length + ys.length ≤ sizeLine ∧ k (.tup (xs ++ ys))) := rfl
theorem bin_addl : wBin .add (.lst xs) (.lst ys) k = (xs.length + ys.length ≤ sizeLine ∧ k (.lst (xs ++ ys))) := rfl
theorem bin_mull : wBin .mul (.lst xs) (.int n) k = (-(2 ^ 63) ≤ n ∧ n < 2 ^ 63 ∧ xs.length * n.toNat ≤ sizeLine ∧ k (.lst (List.replicate n.toNat xs).flatten)) := rfl
theorem bin_mult : wBin .mul (.tup xs) (.int n) k = (-(2 ^ 63) ≤ n ∧ n < 2 ^ 63 ∧ xs.length * n.toNat ≤ 1000000 ∧ k (.tup (List.replicate n.toNat xs).flatten)) := rfl
theorem cmp_lt : wCmp .lt (.int i) (.int j) kb = kb (decide (i < j)) := rfl
theorem cmp_le : wCmp .le (.int i) (.int j) kb = kb (decide (i ≤ j)) := rfl
theorem cmp_gt : wCmp .gt (.int i) (.int j) kb = kb (decide (j < i)) := rfl
theorem cmp_ge : wCmp .ge (.int i) (.int j) kb = kb (decide (j ≤ i)) := rfl
theorem cmp_eqi : wCmp .eq (.int i) (.int j) kb = kb (decide (i = j)) := propext ⟨fun h => h.2, fun h => ⟨.inl ⟨rfl, rfl⟩, h⟩⟩
theorem cmp_nei : wCmp .ne (.int i) (.int j) kb = kb (!decide (i = j)) := propext ⟨fun h => h.2, fun h => ⟨.inl ⟨rfl, rfl⟩, h⟩⟩
theorem cmp_eqb {b c : Bool} : wCmp .eq (.bl b) (.bl c) kb = kb (b == c) := propext ⟨fun h => h.2, fun h => ⟨.inl ⟨rfl, rfl⟩, h⟩⟩
theorem cmp_eqs : wCmp .eq (.str x) (.str y) kb = kb (x == y) := propext ⟨fun h => h.2, fun h => ⟨.inl ⟨rfl, rfl⟩, h⟩⟩
theorem tru_bl : wTru (.bl b) kb = kb b := rfl
theorem tru_int : wTru (.int i) kb = kb (i != 0) := rfl
theorem tru_non : wTru .non kb = kb false := rfl
theorem tru_tup : wTru (.tup xs) kb = kb (!xs.isEmpty) := rfl
theorem tru_lst : wTru (.lst xs) kb = kb (!xs.isEmpty) := rfl
theorem tru_frz : wTru (.frz xs) kb = kb (!xs.isEmpty) := rfl
theorem ix_tup : wIx (.tup xs) (.int i) k = (∃ d, atI xs i = some d ∧ k d) := rfl
theorem len_tup : wBlt .len [.tup xs] k = k (.int xs.length) := rfl
theorem tpl_tup : wBlt .tuple [.tup xs] k = k (.tup xs) := rfl
theorem lsl_tup : wBlt .list [.tup xs] k = k (.lst xs) := rfl
theorem slc_tup : wSlc (.tup xs) lo hi k = k (.tup (cutD xs lo hi)) := rfl
theorem seq_tup : seqD (.tup xs) = some xs := rfl
theorem ix_lst : wIx (.lst xs) (.int i) k = (∃ d, atI xs i = some d ∧ k d) := rfl
theorem len_lst : wBlt .len [.lst xs] k = k (.int xs.length) := rfl
theorem tpl_lst : wBlt .tuple [.lst xs] k = k (.tup xs) := rfl
theorem lsl_lst : wBlt .list [.lst xs] k = k (.lst xs) := rfl
theorem slc_lst : wSlc (.lst xs) lo hi k = k (.lst (cutD xs lo hi)) := rfl
theorem seq_lst : seqD (.lst xs) = some xs := rfl
theorem ix_frz : wIx (.frz xs) (.int i) k = (∃ d, atI xs i = some d ∧ k d) := rfl
theorem len_frz : wBlt .len [.frz xs] k = k (.int xs.length) := rfl
theorem tpl_frz : wBlt .tuple [.frz xs] k = k (.tup xs) := rfl
theorem lsl_frz : wBlt .list [.frz xs] k = k (.lst xs) := rfl
theorem slc_frz : wSlc (.frz xs) lo hi k = k (.lst (cutD xs lo hi)) := rfl
theorem seq_frz : seqD (.frz xs) = some xs := rfl
theorem len_str : wBlt .len [.str x] k = (x.length ≤ sizeLine ∧ k (.int x.length)) := rfl
theorem blt_abs : wBlt .abs [.int i] k = k (.int (if i < 0 then -i else i)) := rfl
theorem blt_int : wBlt .int [.int i] k = k (.int i) := rfl
theorem blt_intb : wBlt .int [.bl b] k = k (.int (if b then 1 else 0)) := rfl
theorem blt_max : wBlt .max [.int i, .int j] k = k (.int (if j > i then j else i)) := rfl
theorem blt_min : wBlt .min [.int i, .int j] k = k (.int (if j < i then j else i)) := rfl
theorem blt_str : wBlt .str [.int i] k = (i.natAbs.log2 < 1920 ∧ k (.str (toString i))) := rfl
theorem blt_all : wBlt .all [.lst xs] k = (∃ bs, blsD xs = some bs ∧ k (.bl (bs.all id))) := rfl
theorem blt_any : wBlt .any [.lst xs] k = (∃ bs, blsD xs = some bs ∧ k (.bl (bs.any id))) := rfl
theorem blt_sum : wBlt .sum [.lst xs] k = (∃ ns, intsD xs = some ns ∧ k (.int ns.sum)) := rfl
theorem opt_0 : wOpt [] ko = ko none := rfl
theorem opt_1 : wOpt [.int i] ko = ko (some i) := rfl
theorem rng_1 : rngE [.int n] = some (0, n) := rfl
theorem rng_2 : rngE [.int i, .int j] = some (i, j) := rfl
theorem atI_0 {l : List D} : atI (d :: l) 0 = some d := atI_nat (j := 0) rfl
theorem atI_1 {l : List D} {d0 : D} : atI (d0 :: d :: l) 1 = some d := atI_nat (j := 1) rfl
theorem atI_2 {l : List D} {d0 d1 : D} : atI (d0 :: d1 :: d :: l) 2 = some d := atI_nat (j := 2) rfl
theorem atI_3 {l : List D} {d0 d1 d2 : D} : atI (d0 :: d1 :: d2 :: d :: l) 3 = some d := atI_nat (j := 3) rfl
theorem atI_4 {l : List D} {d0 d1 d2 d3 : D} : atI (d0 :: d1 :: d2 :: d3 :: d :: l) 4 = some d := atI_nat (j := 4) rfl
theorem ixN_20 : ixN 2 0 = some 0 := rfl
theorem ixN_21 : ixN 2 1 = some 1 := rfl
theorem ty_bl_int (b : Bool) : tyIs (.bl b) .int = true := rfl
theorem ty_bl_bool (b : Bool) : tyIs (.bl b) .bool = true := rfl
theorem ty_bl_str (b : Bool) : tyIs (.bl b) .str = false := rfl
theorem ty_bl_tuple (b : Bool) : tyIs (.bl b) .tuple = false := rfl
theorem ty_bl_list (b : Bool) : tyIs (.bl b) .list = false := rfl
theorem ht_bl (b : Bool) : hasTy (.bl b) = true := rfl
theorem nn_bl (b : Bool) : isNonD (.bl b) = false := rfl
theorem mu_bl (b : Bool) : isMut (.bl b) = false := rfl
theorem ty_int_int (i : Int) : tyIs (.int i) .int = true := rfl
theorem ty_int_bool (i : Int) : tyIs (.int i) .bool = false := rfl
theorem ty_int_str (i : Int) : tyIs (.int i) .str = false := rfl
theorem ty_int_tuple (i : Int) : tyIs (.int i) .tuple = false := rfl
theorem ty_int_list (i : Int) : tyIs (.int i) .list = false := rfl
theorem ht_int (i : Int) : hasTy (.int i) = true := rfl
theorem nn_int (i : Int) : isNonD (.int i) = false := rfl
theorem mu_int (i : Int) : isMut (.int i) = false := rfl
theorem ty_str_int (x : Str) : tyIs (.str x) .int = false := rfl
theorem ty_str_bool (x : Str) : tyIs (.str x) .bool = false := rfl
theorem ty_str_str (x : Str) : tyIs (.str x) .str = true := rfl
theorem ty_str_tuple (x : Str) : tyIs (.str x) .tuple = false := rfl
theorem ty_str_list (x : Str) : tyIs (.str x) .list = false := rfl
theorem ht_str (x : Str) : hasTy (.str x) = true := rfl
theorem nn_str (x : Str) : isNonD (.str x) = false := rfl
theorem mu_str (x : Str) : isMut (.str x) = false := rfl
theorem ty_tup_int (xs : List D) : tyIs (.tup xs) .int = false := rfl
theorem ty_tup_bool (xs : List D) : tyIs (.tup xs) .bool = false := rfl
theorem ty_tup_str (xs : List D) : tyIs (.tup xs) .str = false := rfl
theorem ty_tup_tuple (xs : List D) : tyIs (.tup xs) .tuple = true := rfl
theorem ty_tup_list (xs : List D) : tyIs (.tup xs) .list = false := rfl
theorem ht_tup (xs : List D) : hasTy (.tup xs) = true := rfl
theorem nn_tup (xs : List D) : isNonD (.tup xs) = false := rfl
theorem mu_tup (xs : List D) : isMut (.tup xs) = false := rfl
theorem ty_lst_int (xs : List D) : tyIs (.lst xs) .int = false := rfl
theorem ty_lst_bool (xs : List D) : tyIs (.lst xs) .bool = false := rfl
theorem ty_lst_str (xs : List D) : tyIs (.lst xs) .str = false := rfl
theorem ty_lst_tuple (xs : List D) : tyIs (.lst xs) .tuple = false := rfl
theorem ty_lst_list (xs : List D) : tyIs (.lst xs) .list = true := rfl
theorem ht_lst (xs : List D) : hasTy (.lst xs) = true := rfl
theorem nn_lst (xs : List D) : isNonD (.lst xs) = false := rfl
theorem mu_lst (xs : List D) : isMut (.lst xs) = true := rfl
theorem ty_frz_int (xs : List D) : tyIs (.frz xs) .int = false := rfl
theorem ty_frz_bool (xs : List D) : tyIs (.frz xs) .bool = false := rfl
theorem ty_frz_str (xs : List D) : tyIs (.frz xs) .str = false := rfl
theorem ty_frz_tuple (xs : List D) : tyIs (.frz xs) .tuple = false := rfl
theorem ty_frz_list (xs : List D) : tyIs (.frz xs) .list = true := rfl
theorem ht_frz (xs : List D) : hasTy (.frz xs) = false := rfl
theorem nn_frz (xs : List D) : isNonD (.frz xs) = false := rfl
theorem mu_frz (xs : List D) : isMut (.frz xs) = false := rfl
theorem ty_non_int  : tyIs (.non : D) .int = false := rfl
theorem ty_non_bool  : tyIs (.non : D) .bool = false := rfl
theorem ty_non_str  : tyIs (.non : D) .str = false := rfl
theorem ty_non_tuple  : tyIs (.non : D) .tuple = false := rfl
theorem ty_non_list  : tyIs (.non : D) .list = false := rfl
theorem ht_non  : hasTy (.non : D) = true := rfl
theorem nn_non  : isNonD (.non : D) = true := rfl
theorem mu_non  : isMut (.non : D) = false := rfl
end
theorem wk_nil : Weak none [] [] := ⟨rfl, fun i c c' h => by simp at h⟩
theorem wk_cons {c c' : Cl} {l l' : Loca} (h : WkC c c') (w : Weak none l l') : Weak none (c :: l) (c' :: l') := by
  refine ⟨congrArg (· + 1) w.1, fun i a a' h1 h2 => ?_⟩
  cases i with
  | zero =>
    cases h1; cases h2
    exact ⟨h, fun z => by cases z⟩
  | succ i => exact ⟨(w.2 i a a' h1 h2).1, fun z => by cases z⟩
theorem wk_io {c : Cl} {l l' : Loca} (w : Weak none l l') : Weak (some 0) (c :: l) (c :: l') := by
  refine ⟨congrArg (· + 1) w.1, fun i a a' h1 h2 => ?_⟩
  cases i with
  | zero =>
    cases h1; cases h2
    exact ⟨.refl c, fun _ => rfl⟩
  | succ i => exact ⟨(w.2 i a a' h1 h2).1, fun z => by cases z⟩
/-- a loop over a list, by places -/
theorem list_rule {iop : Option Nat} {turn : D → Loca → Po → Prop} {P : Po} {ds : List D} {env : Loca} (I : Nat → Loca → Prop) (h0 : I 0 env)
    (step : ∀ i d env (nx : Loca → Prop), ds[i]? = some d → I i env → (∀ env' env'', Weak iop env' env'' → I (i + 1) env'' → nx env') → turn d env ⟨nx, P.rt, P.nx, nx, P.ex⟩) (done : ∀ env, I ds.length env → P.nx env) : forLoop iop turn ds env P := by
  refine for_rule (fun rest e => ∃ i, i + rest.length = ds.length ∧ rest = ds.drop i ∧ I i e) ?_ ?_ ds env ⟨0, by omega, rfl, h0⟩
  · rintro d rest e nx ⟨i, h1, h2, h3⟩ hn
    have hd : ds[i]? = some d := by
      have := congrArg (fun l => l[0]?) h2
      simpa using this.symm
    refine step i d e nx hd h3 fun e' e'' w k => hn e' e'' w ⟨i + 1, by simp only [List.length_cons] at h1; omega, ?_, k⟩
    have := congrArg List.tail h2
    simpa using this
  · rintro e ⟨i, h1, _, h3⟩
    have : i = ds.length := by simpa using h1
    subst this
    exact done e h3
theorem rng_at {lo hi : Int} {i : Nat} {d : D} (h : (rngD lo hi)[i]? = some d) : i < (hi - lo).toNat ∧ d = .int (lo + i) := by
  unfold rngD at h
  rw [List.getElem?_map] at h
  by_cases hi' : i < (hi - lo).toNat
  · rw [List.getElem?_range hi'] at h
    exact ⟨hi', (Option.some.inj h).symm⟩
  · rw [List.getElem?_eq_none (by simpa using Nat.le_of_not_lt hi')] at h
    cases h
theorem rng_len {lo hi : Int} : (rngD lo hi).length = (hi - lo).toNat := by simp [rngD]
theorem rng_rule {iop : Option Nat} {turn : D → Loca → Po → Prop} {P : Po} {lo hi : Int} {env : Loca} (I : Nat → Loca → Prop) (h0 : I 0 env)
    (step : ∀ (i : Nat) env (nx : Loca → Prop), i < (hi - lo).toNat → I i env → (∀ env' env'', Weak iop env' env'' → I (i + 1) env'' → nx env') → turn (.int (lo + i)) env ⟨nx, P.rt, P.nx, nx, P.ex⟩) (done : ∀ env, I (hi - lo).toNat env → P.nx env) : forLoop iop turn (rngD lo hi) env P := by
  refine list_rule I h0 (fun i d e nx hd hi' hn => ?_) fun e h => done e (by rw [rng_len] at h; exact h)
  obtain ⟨h1, rfl⟩ := rng_at hd
  exact step i e nx h1 hi' hn
/-- a comprehension without a test, by places: what it gives is told of each -/
theorem lcm_rule {turn : D → Loca → (Option D → Loca → Prop) → Prop} {Q : List D → Loca → Prop} {ds : List D} {env : Loca} (I : Nat → List D → Loca → Prop) (h0 : I 0 [] env) (hl : ds.length ≤ sizeLine) (hI : ∀ i acc env, I i acc env → acc.length = i)
    (step : ∀ i d acc env (k : Option D → Loca → Prop), ds[i]? = some d → I i acc env → (∀ y env', I (i + 1) (acc ++ [y]) env' → k (some y) env') → turn d env k) (done : ∀ acc env, I ds.length acc env → Q acc env) : lcLoop turn ds [] env Q := by
  refine lc_rule (fun rest acc e => ∃ i, i + rest.length = ds.length ∧ rest = ds.drop i ∧ I i acc e) ?_ ?_ ds [] env ⟨0, by omega, rfl, h0⟩
  · rintro d rest acc e k ⟨i, h1, h2, h3⟩ hs hn
    have hd : ds[i]? = some d := by
      have := congrArg (fun l => l[0]?) h2
      simpa using this.symm
    have hlt := (List.getElem?_eq_some_iff.mp hd).1
    refine step i d acc e k hd h3 fun y e' q => hs y e' (by rw [hI _ _ _ h3]; omega) ⟨i + 1, by simp only [List.length_cons] at h1; omega, ?_, q⟩
    have := congrArg List.tail h2
    simpa using this
  · rintro acc e ⟨i, h1, _, h3⟩
    have : i = ds.length := by simpa using h1
    subst this
    exact done acc e h3
theorem cut_to {xs : List D} {j : Int} (h : 0 ≤ j) : cutD xs none (some j) = xs.take j.toNat := by
  unfold cutD HT.sIx
  dsimp only
  rw [if_neg (by omega), List.drop_zero, Nat.sub_zero]
  by_cases z : j.toNat ≤ xs.length
  · rw [Nat.min_eq_left z]
  · rw [Nat.min_eq_right (by omega), List.take_length, List.take_of_length_le (by omega)]
theorem cut_from {xs : List D} {j : Int} (h : 0 ≤ j) : cutD xs (some j) none = xs.drop j.toNat := by
  unfold cutD HT.sIx
  dsimp only
  rw [if_neg (by omega)]
  by_cases z : j.toNat ≤ xs.length
  · rw [Nat.min_eq_left z, List.take_of_length_le (by rw [List.length_drop]; omega)]
  · rw [Nat.min_eq_right (by omega), List.drop_length, List.drop_of_length_le (by omega), List.take_nil]
theorem divOk {i j : Int} (h : 0 < j) (h2 : j < 1073741824) : DivOk i j := .inl ⟨by omega, by omega⟩
theorem divOkW {i j : Int} (h : 0 < j) (h2 : j.natAbs.log2 < 9000) : DivOk i j := .inr ⟨h, h2⟩
theorem mulL {i j : Int} (h : -18446744073709551616 < i) (h2 : i < 18446744073709551616) : MulOk i j := .inl (.inl ⟨by omega, by omega⟩)
theorem mulR {i j : Int} (h : -18446744073709551616 < j) (h2 : j < 18446744073709551616) : MulOk i j := .inl (.inr ⟨by omega, by omega⟩)
section
variable {G : Gx} {P : Po} {is : List Nat} {tp : Bool} {b r : S}
theorem forS_rule {ds : List D} {env : Loca} (I : Nat → Loca → Prop) (h0 : I 0 env)
    (step : ∀ i d env (nx : Loca → Prop), ds[i]? = some d → I i env → (∀ env' env'', Weak G.iop env' env'' → I (i + 1) env'' → nx env') → wTgt is tp d env fun env3 => wS G b env3 ⟨nx, P.rt, fun env1 => wS G r env1 P, nx, P.ex⟩) (done : ∀ env, I ds.length env → wS G r env P) : forS G is tp b r ds env P :=
  list_rule I h0 step done
theorem forR_rule {lo hi : Int} {env : Loca} (I : Nat → Loca → Prop) (h0 : I 0 env)
    (step : ∀ (i : Nat) env (nx : Loca → Prop), i < (hi - lo).toNat → I i env → (∀ env' env'', Weak G.iop env' env'' → I (i + 1) env'' → nx env') → wTgt is tp (.int (lo + i)) env fun env3 => wS G b env3 ⟨nx, P.rt, fun env1 => wS G r env1 P, nx, P.ex⟩) (done : ∀ env, I (hi - lo).toNat env → wS G r env P) :
    forS G is tp b r (rngD lo hi) env P := rng_rule I h0 step done
theorem lcS_rule {it c elt : E} {ds : List D} {env : Loca} {Q : D → Loca → Prop} (I : Nat → List D → Loca → Prop) (h0 : I 0 [] env) (hl : ds.length ≤ sizeLine) (hI : ∀ i acc env, I i acc env → acc.length = i)
    (step : ∀ i d acc env (k : D → Loca → Prop), ds[i]? = some d → I i acc env → (∀ y env', I (i + 1) (acc ++ [y]) env' → k y env') → wTgt is tp d (wipeC env is) fun env2 => wE G elt env2 k fun _ _ => False) (done : ∀ acc env', I ds.length acc env' → Q (.lst acc) (backC env (wipeC env' is) is)) (hc : c = .nil := by rfl) (hk : ∀ i acc env', I i acc env' → kpE it env (wipeC env' is) := by intros; trivial) : lcS G is tp it c elt ds env Q := by
  subst hc
  refine lcm_rule I h0 hl hI (fun i d acc e k hd h hkk => ⟨hk _ _ _ h, ?_⟩) fun acc e h => ⟨hk _ _ _ h, done acc e h⟩
  have := step i d acc e (fun y e' => k (some y) e') hd h hkk
  simpa only [wC, if_true] using this
end
theorem cmp_eq {d e : D} {kb : Bool → Prop} : wCmp .eq d e kb = (((sclD d = true ∧ sclD e = true) ∨ (EqOk d ∧ EqOk e)) ∧ kb (eqD d e)) := rfl
theorem cmp_ne {d e : D} {kb : Bool → Prop} : wCmp .ne d e kb = (((sclD d = true ∧ sclD e = true) ∨ (EqOk d ∧ EqOk e)) ∧ kb (!eqD d e)) := rfl
theorem bls_rep (n : Nat) (b : Bool) : blsD (List.replicate n (.bl b)) = some (List.replicate n b) := by
  induction n with
  | zero => rfl
  | succ n ih =>
    rw [List.replicate_succ, List.replicate_succ]
    show (blsD (List.replicate n (.bl b))).map (b :: ·) = _
    rw [ih]
    rfl
theorem zip_tt {xs ys : List D} : zipD [.tup xs, .tup ys] = some (xs, ys) := rfl
theorem zip_ll {xs ys : List D} : zipD [.lst xs, .lst ys] = some (xs, ys) := rfl
theorem enm_t {xs : List D} : enmD [.tup xs] = some xs := rfl
theorem enm_l {xs : List D} : enmD [.lst xs] = some xs := rfl
theorem kpN_sow {i : Nat} {is : List Nat} : kpN (.sow i) is = (i ∉ is) := rfl
theorem kpN_seq {e : E} {is : List Nat} : kpN (.seq e) is = True := rfl
theorem kpN_rng {e : E} {is : List Nat} : kpN (.rng e) is = True := rfl
theorem kpN_zip {e : E} {is : List Nat} : kpN (.zip e) is = True := rfl
theorem kpN_enm {e : E} {is : List Nat} : kpN (.enm e) is = True := rfl
theorem at_put_ne : ∀ {env : Loca} {i j : Nat} {c : Cl}, i ≠ j → at_ (put env i c) j = at_ env j
  | [], _, _, _, _ => rfl
  | _ :: _, 0, 0, _, h => absurd rfl h
  | _ :: _, 0, _ + 1, _, _ => rfl
  | _ :: _, _ + 1, 0, _, _ => rfl
  | _ :: r, i + 1, j + 1, _, h => at_put_ne (env := r) fun e => h (congrArg (· + 1) e)
theorem kpE_1 {it : E} {i : Nat} {env : Loca} {c : Cl} (h : kpN it [i]) : kpE it env (put (put env i c) i .emp) := by
  cases it with
  | sow j =>
    have h : j ∉ [i] := h
    have hij : i ≠ j := fun e => h (by rw [e]; exact List.mem_cons_self)
    show at_ (put (put env i c) i .emp) j = at_ env j
    rw [at_put_ne hij, at_put_ne hij]
  | _ => trivial
theorem kpE_2 {it : E} {i j : Nat} {env : Loca} {c c' : Cl} (h : kpN it [i, j]) : kpE it env (put (put (put (put env i c) j c') j .emp) i .emp) := by
  cases it with
  | sow k =>
    have h : k ∉ [i, j] := h
    have h1 : i ≠ k := fun e => h (by rw [e]; exact List.mem_cons_self)
    have h2 : j ≠ k := fun e => h (by rw [e]; exact List.mem_cons_of_mem _ List.mem_cons_self)
    show at_ (put (put (put (put env i c) j c') j .emp) i .emp) k = at_ env k
    rw [at_put_ne h1, at_put_ne h2, at_put_ne h2, at_put_ne h1]
  | _ => trivial
theorem put_put {env : Loca} {i : Nat} {a b : Cl} : put (put env i a) i b = put env i b := by
  rw [put_eq, put_eq, put_eq, List.set_set]
theorem put_self : ∀ {env : Loca} {i : Nat}, i < env.length → put env i (at_ env i) = env
  | [], _, h => absurd h (Nat.not_lt_zero _)
  | _ :: _, 0, _ => rfl
  | c :: r, i + 1, h => congrArg (c :: ·) (put_self (env := r) (i := i) (Nat.lt_of_succ_lt_succ h))
/-- a comprehension over one name that only reckons -/
theorem lcS_map {G : Gx} {i : Nat} {it elt : E} {ds : List D} {env : Loca} {Q : D → Loca → Prop} (g : D → D) (hi : i < env.length) (hl : ds.length ≤ sizeLine)
    (hs : ∀ d ∈ ds, ∀ k : D → Loca → Prop, k (g d) (put env i (.val d)) → wE G elt (put env i (.val d)) k fun _ _ => False) (hQ : Q (.lst (ds.map g)) env) (hn : kpN it [i] := by first | trivial | (rw [kpN_sow]; decide)) : lcS G [i] false it .nil elt ds env Q := by
  refine lcS_rule (hk := fun n acc e h => by obtain ⟨_, _, c, rfl⟩ := h; exact kpE_1 hn) (fun n acc e => acc = (ds.take n).map g ∧ n ≤ ds.length ∧ ∃ c, e = put env i c) ⟨by simp, by omega, _, (put_self hi).symm⟩ hl (fun n acc e h => by rw [h.1, List.length_map, List.length_take]; omega) ?_ ?_
  · rintro n d acc e k hd ⟨rfl, hn, c, rfl⟩ hk
    have hlt := (List.getElem?_eq_some_iff.mp hd).1
    show wE G elt (put (put (put env i c) i .emp) i (.val d)) k _
    rw [put_put, put_put]
    refine hs d (List.mem_of_getElem? hd) k (hk _ _ ⟨?_, hlt, _, rfl⟩)
    rw [List.take_succ, hd, List.map_append]
    rfl
  · rintro acc e ⟨rfl, _, c, rfl⟩
    rw [List.take_length]
    show Q _ (put (put (put env i c) i .emp) i (at_ env i))
    rw [put_put, put_put, put_self hi]
    exact hQ
/-- .. over two names -/
theorem lcS_map2 {G : Gx} {i j : Nat} {it elt : E} {ps : List (D × D)} {env : Loca} {Q : D → Loca → Prop} (g : D → D → D) (hij : i ≠ j) (hi : i < env.length) (hj : j < env.length) (hl : ps.length ≤ sizeLine)
    (hs : ∀ p ∈ ps, ∀ k : D → Loca → Prop, k (g p.1 p.2) (put (put env i (.val p.1)) j (.val p.2)) → wE G elt (put (put env i (.val p.1)) j (.val p.2)) k fun _ _ => False) (hQ : Q (.lst (ps.map fun p => g p.1 p.2)) env) (hn : kpN it [i, j] := by first | trivial | (rw [kpN_sow]; decide)) : lcS G [i, j] true it .nil elt (ps.map fun p => .tup [p.1, p.2]) env Q := by
  have cm : ∀ (e : Loca) (a b : Cl), put (put e j a) i b = put (put e i b) j a := fun e a b => by
    rw [put_eq, put_eq, put_eq, put_eq, List.set_comm _ _ (Ne.symm hij)]
  have c4 : ∀ (c c' a b : Cl), put (put (put (put env i c) j c') i a) j b = put (put env i a) j b := fun c c' a b => by
    rw [cm, put_put, put_put]
  refine lcS_rule (hk := fun n acc e h => by obtain ⟨_, _, c, c', rfl⟩ := h; exact kpE_2 hn) (fun n acc e => acc = (ps.take n).map (fun p => g p.1 p.2) ∧ n ≤ ps.length ∧ ∃ c c', e = put (put env i c) j c') ⟨by simp, by omega, at_ env i, at_ env j, ?_⟩ (by rw [List.length_map]; exact hl) (fun n acc e h => by rw [h.1, List.length_map, List.length_take]; omega) ?_ ?_
  · rw [put_self hi, put_self hj]
  · rintro n d acc e k hd ⟨rfl, hn, c, c', rfl⟩ hk
    rw [List.getElem?_map] at hd
    cases hp : ps[n]? with
    | none => rw [hp] at hd; cases hd
    | some p =>
      rw [hp] at hd
      cases hd
      have hlt := (List.getElem?_eq_some_iff.mp hp).1
      refine ⟨rfl, ?_⟩
      show wE G elt (put (put (put (put (put (put env i c) j c') j .emp) i .emp) i (.val p.1)) j (.val p.2)) k _
      have e1 : put (put (put (put (put (put env i c) j c') j .emp) i .emp) i (.val p.1)) j (.val p.2) = put (put env i (.val p.1)) j (.val p.2) := by
        rw [put_put, put_put, c4]
      rw [e1]
      refine hs p (List.mem_of_getElem? hp) k (hk _ _ ⟨?_, hlt, _, _, rfl⟩)
      rw [List.take_succ, hp, List.map_append]
      rfl
  · rintro acc e ⟨rfl, _, c, c', rfl⟩
    rw [List.length_map, List.take_length]
    show Q _ (put (put (put (put (put (put env i c) j c') j .emp) i .emp) j (at_ env j)) i (at_ env i))
    have e2 : put (put (put (put (put (put env i c) j c') j .emp) i .emp) j (at_ env j)) i (at_ env i) = env := by
      rw [cm, put_put, put_put, c4, put_self hi, put_self hj]
    rw [e2]
    exact hQ
end Pd

/-! What the defs do that many laws share: generic in the numbers of what they call. -/
namespace Pd.M
open L2 PyProof.Rows PySem.Spec PySem
section
variable {G : Gx} {P : D → D → Prop} {Ex : Exn → Prop} {ds : List D}
def cnt (d : D) (lo hi : Int) : Bool := match d with
  | .int i => decide (lo ≤ i) && decide (i ≤ hi)
  | _ => false
def isI (d : D) : Bool := match d with
  | .int _ => true
  | _ => false
theorem cnt_int {i lo hi : Int} : cnt (.int i) lo hi = true ↔ lo ≤ i ∧ i ≤ hi := by simp [cnt]
theorem cnt_of {d : D} {lo hi : Int} (h : cnt d lo hi = true) : ∃ i, d = .int i ∧ lo ≤ i ∧ i ≤ hi := by
  cases d with
  | int i => exact ⟨i, rfl, cnt_int.mp h⟩
  | _ => simp [cnt] at h
theorem fm {a m : Int} (h : 0 < m) : 0 ≤ a.fmod m ∧ a.fmod m < m := ⟨Int.fmod_nonneg_of_pos a h, Int.fmod_lt_of_pos a h⟩
/-! ### is_integer(value), _law_is_whole(value) -/
def B_isint : S := .seq (.ret (.and (.cons (.isi (.var 0) .int) (.cons (.not (.isi (.var 0) .bool)) .nil)))) .nil
def isint : Spec := fun ds P _ => ∃ d, ds = [d] ∧ hasTy d = true ∧ P (.bl (isI d)) .non
theorem W_isint (h : isint ds P Ex) : ds.length = 1 ∧ wS G B_isint (vals ds (1 - ds.length)) (poV P Ex) := by
  obtain ⟨d, rfl, hd, hp⟩ := h
  refine ⟨rfl, ?_⟩
  show wS _ B_isint [.val d] _
  unfold B_isint
  simp only [st_for, st_nil, st_expr, st_asg, st_asgl, st_unp, st_par, st_app, st_seti, st_ret, st_retn, st_ife, st_brk, st_cnt, st_rmal, st_tr, wRet, e_var, e_int, e_bl, e_non, e_str, e_fnv, e_gint, e_bin, e_neg, e_not, e_cmp, e_chn, e_isn, e_ntn, e_and, e_or, e_ite, e_tup, e_lst, e_call, e_cio, e_clv, e_blt, e_isi, e_ix, e_slc, e_rev, e_lrng, e_lc, e_met, wA, wP, wAnd, wOr, wT, wTA, wTO, kpN_sow, kpN_seq, kpN_rng, kpN_zip, kpN_enm, i_rng, i_seq, i_zip, i_enm, wCs, wHnd, pk, at_, put, putAll, putCs, wTgt, rng_1, rng_2, zip_tt, zip_ll, enm_t, enm_l, cellOf, frE, frF, frB, isOwn, isOwnL, Op.rd, Cl.datum, List.getElem?_cons_zero, List.getElem?_cons_succ, List.getElem?_nil, Option.getD_some, Option.getD_none, List.set_cons_zero, List.set_cons_succ, ne_eq, reduceCtorEq, not_false_eq_true, not_true_eq_false, true_and, and_true, if_true, if_false, ite_true, ite_false, Bool.false_eq_true, Bool.true_eq_false, Bool.true_and, Bool.and_true, Bool.false_and, Bool.and_false, Bool.not_true, Bool.not_false, false_implies, true_implies, forall_const, implies_true, bin_add, bin_sub, bin_mul, bin_fdiv, bin_mod, bin_adds, bin_addt, bin_addl, bin_mull, bin_mult, cmp_lt, cmp_le, cmp_gt, cmp_ge, cmp_eqi, cmp_nei, cmp_eqb, cmp_eqs, tru_bl, tru_int, tru_non, tru_tup, tru_lst, tru_frz, ix_tup, len_tup, tpl_tup, lsl_tup, slc_tup, seq_tup, ix_lst, len_lst, tpl_lst, lsl_lst, slc_lst, seq_lst, ix_frz, len_frz, tpl_frz, lsl_frz, slc_frz, seq_frz, len_str, blt_abs, blt_int, blt_intb, blt_max, blt_min, blt_str, blt_all, blt_any, blt_sum, opt_0, opt_1, rng_1, rng_2, atI_0, atI_1, atI_2, atI_3, atI_4, ixN_20, ixN_21, ty_bl_int, ty_bl_bool, ty_bl_str, ty_bl_tuple, ty_bl_list, ht_bl, nn_bl, mu_bl, ty_int_int, ty_int_bool, ty_int_str, ty_int_tuple, ty_int_list, ht_int, nn_int, mu_int, ty_str_int, ty_str_bool, ty_str_str, ty_str_tuple, ty_str_list, ht_str, nn_str, mu_str, ty_tup_int, ty_tup_bool, ty_tup_str, ty_tup_tuple, ty_tup_list, ht_tup, nn_tup, mu_tup, ty_lst_int, ty_lst_bool, ty_lst_str, ty_lst_tuple, ty_lst_list, ht_lst, nn_lst, mu_lst, ty_frz_int, ty_frz_bool, ty_frz_str, ty_frz_tuple, ty_frz_list, ht_frz, nn_frz, mu_frz, ty_non_int, ty_non_bool, ty_non_str, ty_non_tuple, ty_non_list, ht_non, nn_non, mu_non, List.map_cons, List.map_nil, exists_eq_left', decide_eq_true_eq, exists_eq_left, List.length_cons, List.length_nil, Nat.reduceAdd, Int.reduceEq, Int.reduceLT, Int.reduceLE, Int.reduceNeg, decide_true, decide_false, Cl.own.injEq, D.tup.injEq, List.mem_cons, List.not_mem_nil, or_false, forall_eq_or_imp, forall_eq, Option.some.injEq]
  refine ⟨hd, ?_⟩
  cases d <;> simp_all [tyIs, isI]
/-! ### is_count(value, low, high) -/
def B_iscnt (n : Nat) : S := .seq (.ret (.and (.cons (.call n (.cons (.var 0) .nil)) (.cons (.chn .le .le (.var 1) (.var 0) (.var 2)) .nil)))) .nil
def iscnt : Spec := fun ds P _ => ∃ (d : D) (lo hi : Int), ds = [d, .int lo, .int hi] ∧ hasTy d = true ∧ P (.bl (cnt d lo hi)) .non
theorem W_iscnt {n : Nat} (hn : G.sp n = isint) (h : iscnt ds P Ex) : ds.length = 3 ∧ wS G (B_iscnt n) (vals ds (3 - ds.length)) (poV P Ex) := by
  obtain ⟨d, lo, hi, rfl, hd, hp⟩ := h
  refine ⟨rfl, ?_⟩
  show wS _ (B_iscnt n) [.val d, .val (.int lo), .val (.int hi)] _
  unfold B_iscnt
  simp only [st_for, st_nil, st_expr, st_asg, st_asgl, st_unp, st_par, st_app, st_seti, st_ret, st_retn, st_ife, st_brk, st_cnt, st_rmal, st_tr, wRet, e_var, e_int, e_bl, e_non, e_str, e_fnv, e_gint, e_bin, e_neg, e_not, e_cmp, e_chn, e_isn, e_ntn, e_and, e_or, e_ite, e_tup, e_lst, e_call, e_cio, e_clv, e_blt, e_isi, e_ix, e_slc, e_rev, e_lrng, e_lc, e_met, wA, wP, wAnd, wOr, wT, wTA, wTO, kpN_sow, kpN_seq, kpN_rng, kpN_zip, kpN_enm, i_rng, i_seq, i_zip, i_enm, wCs, wHnd, pk, at_, put, putAll, putCs, wTgt, rng_1, rng_2, zip_tt, zip_ll, enm_t, enm_l, cellOf, frE, frF, frB, isOwn, isOwnL, Op.rd, Cl.datum, List.getElem?_cons_zero, List.getElem?_cons_succ, List.getElem?_nil, Option.getD_some, Option.getD_none, List.set_cons_zero, List.set_cons_succ, ne_eq, reduceCtorEq, not_false_eq_true, not_true_eq_false, true_and, and_true, if_true, if_false, ite_true, ite_false, Bool.false_eq_true, Bool.true_eq_false, Bool.true_and, Bool.and_true, Bool.false_and, Bool.and_false, Bool.not_true, Bool.not_false, false_implies, true_implies, forall_const, implies_true, bin_add, bin_sub, bin_mul, bin_fdiv, bin_mod, bin_adds, bin_addt, bin_addl, bin_mull, bin_mult, cmp_lt, cmp_le, cmp_gt, cmp_ge, cmp_eqi, cmp_nei, cmp_eqb, cmp_eqs, tru_bl, tru_int, tru_non, tru_tup, tru_lst, tru_frz, ix_tup, len_tup, tpl_tup, lsl_tup, slc_tup, seq_tup, ix_lst, len_lst, tpl_lst, lsl_lst, slc_lst, seq_lst, ix_frz, len_frz, tpl_frz, lsl_frz, slc_frz, seq_frz, len_str, blt_abs, blt_int, blt_intb, blt_max, blt_min, blt_str, blt_all, blt_any, blt_sum, opt_0, opt_1, rng_1, rng_2, atI_0, atI_1, atI_2, atI_3, atI_4, ixN_20, ixN_21, ty_bl_int, ty_bl_bool, ty_bl_str, ty_bl_tuple, ty_bl_list, ht_bl, nn_bl, mu_bl, ty_int_int, ty_int_bool, ty_int_str, ty_int_tuple, ty_int_list, ht_int, nn_int, mu_int, ty_str_int, ty_str_bool, ty_str_str, ty_str_tuple, ty_str_list, ht_str, nn_str, mu_str, ty_tup_int, ty_tup_bool, ty_tup_str, ty_tup_tuple, ty_tup_list, ht_tup, nn_tup, mu_tup, ty_lst_int, ty_lst_bool, ty_lst_str, ty_lst_tuple, ty_lst_list, ht_lst, nn_lst, mu_lst, ty_frz_int, ty_frz_bool, ty_frz_str, ty_frz_tuple, ty_frz_list, ht_frz, nn_frz, mu_frz, ty_non_int, ty_non_bool, ty_non_str, ty_non_tuple, ty_non_list, ht_non, nn_non, mu_non, List.map_cons, List.map_nil, exists_eq_left', decide_eq_true_eq, exists_eq_left, List.length_cons, List.length_nil, Nat.reduceAdd, Int.reduceEq, Int.reduceLT, Int.reduceLE, Int.reduceNeg, decide_true, decide_false, Cl.own.injEq, D.tup.injEq, List.mem_cons, List.not_mem_nil, or_false, forall_eq_or_imp, forall_eq, Option.some.injEq, hn]
  refine ⟨d, rfl, hd, ?_⟩
  cases d with
  | int i =>
    simp only [st_for, st_nil, st_expr, st_asg, st_asgl, st_unp, st_par, st_app, st_seti, st_ret, st_retn, st_ife, st_brk, st_cnt, st_rmal, st_tr, wRet, e_var, e_int, e_bl, e_non, e_str, e_fnv, e_gint, e_bin, e_neg, e_not, e_cmp, e_chn, e_isn, e_ntn, e_and, e_or, e_ite, e_tup, e_lst, e_call, e_cio, e_clv, e_blt, e_isi, e_ix, e_slc, e_rev, e_lrng, e_lc, e_met, wA, wP, wAnd, wOr, wT, wTA, wTO, kpN_sow, kpN_seq, kpN_rng, kpN_zip, kpN_enm, i_rng, i_seq, i_zip, i_enm, wCs, wHnd, pk, at_, put, putAll, putCs, wTgt, rng_1, rng_2, zip_tt, zip_ll, enm_t, enm_l, cellOf, frE, frF, frB, isOwn, isOwnL, Op.rd, Cl.datum, List.getElem?_cons_zero, List.getElem?_cons_succ, List.getElem?_nil, Option.getD_some, Option.getD_none, List.set_cons_zero, List.set_cons_succ, ne_eq, reduceCtorEq, not_false_eq_true, not_true_eq_false, true_and, and_true, if_true, if_false, ite_true, ite_false, Bool.false_eq_true, Bool.true_eq_false, Bool.true_and, Bool.and_true, Bool.false_and, Bool.and_false, Bool.not_true, Bool.not_false, false_implies, true_implies, forall_const, implies_true, bin_add, bin_sub, bin_mul, bin_fdiv, bin_mod, bin_adds, bin_addt, bin_addl, bin_mull, bin_mult, cmp_lt, cmp_le, cmp_gt, cmp_ge, cmp_eqi, cmp_nei, cmp_eqb, cmp_eqs, tru_bl, tru_int, tru_non, tru_tup, tru_lst, tru_frz, ix_tup, len_tup, tpl_tup, lsl_tup, slc_tup, seq_tup, ix_lst, len_lst, tpl_lst, lsl_lst, slc_lst, seq_lst, ix_frz, len_frz, tpl_frz, lsl_frz, slc_frz, seq_frz, len_str, blt_abs, blt_int, blt_intb, blt_max, blt_min, blt_str, blt_all, blt_any, blt_sum, opt_0, opt_1, rng_1, rng_2, atI_0, atI_1, atI_2, atI_3, atI_4, ixN_20, ixN_21, ty_bl_int, ty_bl_bool, ty_bl_str, ty_bl_tuple, ty_bl_list, ht_bl, nn_bl, mu_bl, ty_int_int, ty_int_bool, ty_int_str, ty_int_tuple, ty_int_list, ht_int, nn_int, mu_int, ty_str_int, ty_str_bool, ty_str_str, ty_str_tuple, ty_str_list, ht_str, nn_str, mu_str, ty_tup_int, ty_tup_bool, ty_tup_str, ty_tup_tuple, ty_tup_list, ht_tup, nn_tup, mu_tup, ty_lst_int, ty_lst_bool, ty_lst_str, ty_lst_tuple, ty_lst_list, ht_lst, nn_lst, mu_lst, ty_frz_int, ty_frz_bool, ty_frz_str, ty_frz_tuple, ty_frz_list, ht_frz, nn_frz, mu_frz, ty_non_int, ty_non_bool, ty_non_str, ty_non_tuple, ty_non_list, ht_non, nn_non, mu_non, List.map_cons, List.map_nil, exists_eq_left', decide_eq_true_eq, exists_eq_left, List.length_cons, List.length_nil, Nat.reduceAdd, Int.reduceEq, Int.reduceLT, Int.reduceLE, Int.reduceNeg, decide_true, decide_false, Cl.own.injEq, D.tup.injEq, List.mem_cons, List.not_mem_nil, or_false, forall_eq_or_imp, forall_eq, Option.some.injEq, isI]
    by_cases h : lo ≤ i
    · simp only [h, if_true]
      simpa [cnt, h] using hp
    · simp only [h, if_false]
      simpa [cnt, h] using hp
  | _ => simpa [cnt, isI] using hp
/-! ### check_count(value, low, high) -/
def B_chkcnt (n : Nat) (m : Str) : S := .seq (.ife (.not (.tst (.call n (.cons (.var 0) (.cons (.var 1) (.cons (.var 2) .nil)))))) (.seq (.rmal m) .nil) .nil) .nil
def chkcnt : Spec := fun ds P Ex => ∃ (d : D) (lo hi : Int), ds = [d, .int lo, .int hi] ∧ hasTy d = true ∧ (cnt d lo hi = true → P .non .non) ∧ (cnt d lo hi = false → Ex .mal)
theorem W_chkcnt {n : Nat} {m : Str} (hn : G.sp n = iscnt) (h : chkcnt ds P Ex) : ds.length = 3 ∧ wS G (B_chkcnt n m) (vals ds (3 - ds.length)) (poV P Ex) := by
  obtain ⟨d, lo, hi, rfl, hd, h1, h2⟩ := h
  refine ⟨rfl, ?_⟩
  show wS _ (B_chkcnt n m) [.val d, .val (.int lo), .val (.int hi)] _
  unfold B_chkcnt
  simp only [st_for, st_nil, st_expr, st_asg, st_asgl, st_unp, st_par, st_app, st_seti, st_ret, st_retn, st_ife, st_brk, st_cnt, st_rmal, st_tr, wRet, e_var, e_int, e_bl, e_non, e_str, e_fnv, e_gint, e_bin, e_neg, e_not, e_cmp, e_chn, e_isn, e_ntn, e_and, e_or, e_ite, e_tup, e_lst, e_call, e_cio, e_clv, e_blt, e_isi, e_ix, e_slc, e_rev, e_lrng, e_lc, e_met, wA, wP, wAnd, wOr, wT, wTA, wTO, kpN_sow, kpN_seq, kpN_rng, kpN_zip, kpN_enm, i_rng, i_seq, i_zip, i_enm, wCs, wHnd, pk, at_, put, putAll, putCs, wTgt, rng_1, rng_2, zip_tt, zip_ll, enm_t, enm_l, cellOf, frE, frF, frB, isOwn, isOwnL, Op.rd, Cl.datum, List.getElem?_cons_zero, List.getElem?_cons_succ, List.getElem?_nil, Option.getD_some, Option.getD_none, List.set_cons_zero, List.set_cons_succ, ne_eq, reduceCtorEq, not_false_eq_true, not_true_eq_false, true_and, and_true, if_true, if_false, ite_true, ite_false, Bool.false_eq_true, Bool.true_eq_false, Bool.true_and, Bool.and_true, Bool.false_and, Bool.and_false, Bool.not_true, Bool.not_false, false_implies, true_implies, forall_const, implies_true, bin_add, bin_sub, bin_mul, bin_fdiv, bin_mod, bin_adds, bin_addt, bin_addl, bin_mull, bin_mult, cmp_lt, cmp_le, cmp_gt, cmp_ge, cmp_eqi, cmp_nei, cmp_eqb, cmp_eqs, tru_bl, tru_int, tru_non, tru_tup, tru_lst, tru_frz, ix_tup, len_tup, tpl_tup, lsl_tup, slc_tup, seq_tup, ix_lst, len_lst, tpl_lst, lsl_lst, slc_lst, seq_lst, ix_frz, len_frz, tpl_frz, lsl_frz, slc_frz, seq_frz, len_str, blt_abs, blt_int, blt_intb, blt_max, blt_min, blt_str, blt_all, blt_any, blt_sum, opt_0, opt_1, rng_1, rng_2, atI_0, atI_1, atI_2, atI_3, atI_4, ixN_20, ixN_21, ty_bl_int, ty_bl_bool, ty_bl_str, ty_bl_tuple, ty_bl_list, ht_bl, nn_bl, mu_bl, ty_int_int, ty_int_bool, ty_int_str, ty_int_tuple, ty_int_list, ht_int, nn_int, mu_int, ty_str_int, ty_str_bool, ty_str_str, ty_str_tuple, ty_str_list, ht_str, nn_str, mu_str, ty_tup_int, ty_tup_bool, ty_tup_str, ty_tup_tuple, ty_tup_list, ht_tup, nn_tup, mu_tup, ty_lst_int, ty_lst_bool, ty_lst_str, ty_lst_tuple, ty_lst_list, ht_lst, nn_lst, mu_lst, ty_frz_int, ty_frz_bool, ty_frz_str, ty_frz_tuple, ty_frz_list, ht_frz, nn_frz, mu_frz, ty_non_int, ty_non_bool, ty_non_str, ty_non_tuple, ty_non_list, ht_non, nn_non, mu_non, List.map_cons, List.map_nil, exists_eq_left', decide_eq_true_eq, exists_eq_left, List.length_cons, List.length_nil, Nat.reduceAdd, Int.reduceEq, Int.reduceLT, Int.reduceLE, Int.reduceNeg, decide_true, decide_false, Cl.own.injEq, D.tup.injEq, List.mem_cons, List.not_mem_nil, or_false, forall_eq_or_imp, forall_eq, Option.some.injEq, hn]
  refine ⟨d, lo, hi, rfl, hd, ?_⟩
  simp only [st_for, st_nil, st_expr, st_asg, st_asgl, st_unp, st_par, st_app, st_seti, st_ret, st_retn, st_ife, st_brk, st_cnt, st_rmal, st_tr, wRet, e_var, e_int, e_bl, e_non, e_str, e_fnv, e_gint, e_bin, e_neg, e_not, e_cmp, e_chn, e_isn, e_ntn, e_and, e_or, e_ite, e_tup, e_lst, e_call, e_cio, e_clv, e_blt, e_isi, e_ix, e_slc, e_rev, e_lrng, e_lc, e_met, wA, wP, wAnd, wOr, wT, wTA, wTO, kpN_sow, kpN_seq, kpN_rng, kpN_zip, kpN_enm, i_rng, i_seq, i_zip, i_enm, wCs, wHnd, pk, at_, put, putAll, putCs, wTgt, rng_1, rng_2, zip_tt, zip_ll, enm_t, enm_l, cellOf, frE, frF, frB, isOwn, isOwnL, Op.rd, Cl.datum, List.getElem?_cons_zero, List.getElem?_cons_succ, List.getElem?_nil, Option.getD_some, Option.getD_none, List.set_cons_zero, List.set_cons_succ, ne_eq, reduceCtorEq, not_false_eq_true, not_true_eq_false, true_and, and_true, if_true, if_false, ite_true, ite_false, Bool.false_eq_true, Bool.true_eq_false, Bool.true_and, Bool.and_true, Bool.false_and, Bool.and_false, Bool.not_true, Bool.not_false, false_implies, true_implies, forall_const, implies_true, bin_add, bin_sub, bin_mul, bin_fdiv, bin_mod, bin_adds, bin_addt, bin_addl, bin_mull, bin_mult, cmp_lt, cmp_le, cmp_gt, cmp_ge, cmp_eqi, cmp_nei, cmp_eqb, cmp_eqs, tru_bl, tru_int, tru_non, tru_tup, tru_lst, tru_frz, ix_tup, len_tup, tpl_tup, lsl_tup, slc_tup, seq_tup, ix_lst, len_lst, tpl_lst, lsl_lst, slc_lst, seq_lst, ix_frz, len_frz, tpl_frz, lsl_frz, slc_frz, seq_frz, len_str, blt_abs, blt_int, blt_intb, blt_max, blt_min, blt_str, blt_all, blt_any, blt_sum, opt_0, opt_1, rng_1, rng_2, atI_0, atI_1, atI_2, atI_3, atI_4, ixN_20, ixN_21, ty_bl_int, ty_bl_bool, ty_bl_str, ty_bl_tuple, ty_bl_list, ht_bl, nn_bl, mu_bl, ty_int_int, ty_int_bool, ty_int_str, ty_int_tuple, ty_int_list, ht_int, nn_int, mu_int, ty_str_int, ty_str_bool, ty_str_str, ty_str_tuple, ty_str_list, ht_str, nn_str, mu_str, ty_tup_int, ty_tup_bool, ty_tup_str, ty_tup_tuple, ty_tup_list, ht_tup, nn_tup, mu_tup, ty_lst_int, ty_lst_bool, ty_lst_str, ty_lst_tuple, ty_lst_list, ht_lst, nn_lst, mu_lst, ty_frz_int, ty_frz_bool, ty_frz_str, ty_frz_tuple, ty_frz_list, ht_frz, nn_frz, mu_frz, ty_non_int, ty_non_bool, ty_non_str, ty_non_tuple, ty_non_list, ht_non, nn_non, mu_non, List.map_cons, List.map_nil, exists_eq_left', decide_eq_true_eq, exists_eq_left, List.length_cons, List.length_nil, Nat.reduceAdd, Int.reduceEq, Int.reduceLT, Int.reduceLE, Int.reduceNeg, decide_true, decide_false, Cl.own.injEq, D.tup.injEq, List.mem_cons, List.not_mem_nil, or_false, forall_eq_or_imp, forall_eq, Option.some.injEq]
  cases hc : cnt d lo hi
  · simpa using h2 hc
  · simpa using h1 hc
/-! ### _law_state(script) -/
def B_state : S := .seq (.asg 1 (.int 0))
  (.seq (.asg 2 (.int 1))
  (.seq (.for_ [3] false (.seq (.slc (.var 0) .nil (.cons (.int 63) .nil))) (.seq (.asg 1 (.bin .add (.bin .mul (.var 1) (.int 1000003)) (.blt .abs (.cons (.var 3) .nil))))
    (.seq (.asg 2 (.bin .mod (.blt .int (.cons (.bin .add (.bin .mul (.var 2) (.int 48271)) (.var 3)) .nil)) (.int 2147483647))) .nil)))
  (.seq (.ret (.lst (.cons (.var 1) (.cons (.ite (.tst (.cmp .ne (.var 2) (.int 1973665155))) (.var 2) (.int 7)) .nil)))) .nil)))
def state : Spec := fun ds P _ => ∃ ns : List Int, ds = [.frz (ns.map D.int)] ∧ ∀ a b : Int, P (.lst [.int a, .int b]) .non
theorem W_state (hi : G.iop = none) (h : state ds P Ex) : ds.length = 1 ∧ wS G B_state (vals ds (4 - ds.length)) (poF P Ex) := by
  obtain ⟨ns, rfl, hp⟩ := h
  refine ⟨rfl, ?_⟩
  show wS _ B_state [.val (.frz (ns.map D.int)), .emp, .emp, .emp] _
  unfold B_state
  simp only [st_for, st_nil, st_expr, st_asg, st_asgl, st_unp, st_par, st_app, st_seti, st_ret, st_retn, st_ife, st_brk, st_cnt, st_rmal, st_tr, wRet, e_var, e_int, e_bl, e_non, e_str, e_fnv, e_gint, e_bin, e_neg, e_not, e_cmp, e_chn, e_isn, e_ntn, e_and, e_or, e_ite, e_tup, e_lst, e_call, e_cio, e_clv, e_blt, e_isi, e_ix, e_slc, e_rev, e_lrng, e_lc, e_met, wA, wP, wAnd, wOr, wT, wTA, wTO, kpN_sow, kpN_seq, kpN_rng, kpN_zip, kpN_enm, i_rng, i_seq, i_zip, i_enm, wCs, wHnd, pk, at_, put, putAll, putCs, wTgt, rng_1, rng_2, zip_tt, zip_ll, enm_t, enm_l, cellOf, frE, frF, frB, isOwn, isOwnL, Op.rd, Cl.datum, List.getElem?_cons_zero, List.getElem?_cons_succ, List.getElem?_nil, Option.getD_some, Option.getD_none, List.set_cons_zero, List.set_cons_succ, ne_eq, reduceCtorEq, not_false_eq_true, not_true_eq_false, true_and, and_true, if_true, if_false, ite_true, ite_false, Bool.false_eq_true, Bool.true_eq_false, Bool.true_and, Bool.and_true, Bool.false_and, Bool.and_false, Bool.not_true, Bool.not_false, false_implies, true_implies, forall_const, implies_true, bin_add, bin_sub, bin_mul, bin_fdiv, bin_mod, bin_adds, bin_addt, bin_addl, bin_mull, bin_mult, cmp_lt, cmp_le, cmp_gt, cmp_ge, cmp_eqi, cmp_nei, cmp_eqb, cmp_eqs, tru_bl, tru_int, tru_non, tru_tup, tru_lst, tru_frz, ix_tup, len_tup, tpl_tup, lsl_tup, slc_tup, seq_tup, ix_lst, len_lst, tpl_lst, lsl_lst, slc_lst, seq_lst, ix_frz, len_frz, tpl_frz, lsl_frz, slc_frz, seq_frz, len_str, blt_abs, blt_int, blt_intb, blt_max, blt_min, blt_str, blt_all, blt_any, blt_sum, opt_0, opt_1, rng_1, rng_2, atI_0, atI_1, atI_2, atI_3, atI_4, ixN_20, ixN_21, ty_bl_int, ty_bl_bool, ty_bl_str, ty_bl_tuple, ty_bl_list, ht_bl, nn_bl, mu_bl, ty_int_int, ty_int_bool, ty_int_str, ty_int_tuple, ty_int_list, ht_int, nn_int, mu_int, ty_str_int, ty_str_bool, ty_str_str, ty_str_tuple, ty_str_list, ht_str, nn_str, mu_str, ty_tup_int, ty_tup_bool, ty_tup_str, ty_tup_tuple, ty_tup_list, ht_tup, nn_tup, mu_tup, ty_lst_int, ty_lst_bool, ty_lst_str, ty_lst_tuple, ty_lst_list, ht_lst, nn_lst, mu_lst, ty_frz_int, ty_frz_bool, ty_frz_str, ty_frz_tuple, ty_frz_list, ht_frz, nn_frz, mu_frz, ty_non_int, ty_non_bool, ty_non_str, ty_non_tuple, ty_non_list, ht_non, nn_non, mu_non, List.map_cons, List.map_nil, exists_eq_left', decide_eq_true_eq, exists_eq_left, List.length_cons, List.length_nil, Nat.reduceAdd, Int.reduceEq, Int.reduceLT, Int.reduceLE, Int.reduceNeg, decide_true, decide_false, Cl.own.injEq, D.tup.injEq, List.mem_cons, List.not_mem_nil, or_false, forall_eq_or_imp, forall_eq, Option.some.injEq, hi]
  have hc : ∃ ms : List Int, cutD (ns.map D.int) none (some 63) = ms.map D.int := ⟨ns.take 63, by rw [cut_to (by omega), List.map_take]; rfl⟩
  obtain ⟨ms, hc⟩ := hc
  rw [hc]
  refine forS_rule (fun _ env => ∃ (a b : Int) (c : Cl), env = [.val (.frz (ns.map D.int)), .val (.int a), .val (.int b), c]) ⟨0, 1, .emp, rfl⟩ ?_ ?_
  · rintro i d env nx hd ⟨a, b, c, rfl⟩ hn
    rw [List.getElem?_map] at hd
    cases e : ms[i]? with
    | none => rw [e] at hd; cases hd
    | some z =>
      rw [e] at hd
      cases hd
      simp only [st_for, st_nil, st_expr, st_asg, st_asgl, st_unp, st_par, st_app, st_seti, st_ret, st_retn, st_ife, st_brk, st_cnt, st_rmal, st_tr, wRet, e_var, e_int, e_bl, e_non, e_str, e_fnv, e_gint, e_bin, e_neg, e_not, e_cmp, e_chn, e_isn, e_ntn, e_and, e_or, e_ite, e_tup, e_lst, e_call, e_cio, e_clv, e_blt, e_isi, e_ix, e_slc, e_rev, e_lrng, e_lc, e_met, wA, wP, wAnd, wOr, wT, wTA, wTO, kpN_sow, kpN_seq, kpN_rng, kpN_zip, kpN_enm, i_rng, i_seq, i_zip, i_enm, wCs, wHnd, pk, at_, put, putAll, putCs, wTgt, rng_1, rng_2, zip_tt, zip_ll, enm_t, enm_l, cellOf, frE, frF, frB, isOwn, isOwnL, Op.rd, Cl.datum, List.getElem?_cons_zero, List.getElem?_cons_succ, List.getElem?_nil, Option.getD_some, Option.getD_none, List.set_cons_zero, List.set_cons_succ, ne_eq, reduceCtorEq, not_false_eq_true, not_true_eq_false, true_and, and_true, if_true, if_false, ite_true, ite_false, Bool.false_eq_true, Bool.true_eq_false, Bool.true_and, Bool.and_true, Bool.false_and, Bool.and_false, Bool.not_true, Bool.not_false, false_implies, true_implies, forall_const, implies_true, bin_add, bin_sub, bin_mul, bin_fdiv, bin_mod, bin_adds, bin_addt, bin_addl, bin_mull, bin_mult, cmp_lt, cmp_le, cmp_gt, cmp_ge, cmp_eqi, cmp_nei, cmp_eqb, cmp_eqs, tru_bl, tru_int, tru_non, tru_tup, tru_lst, tru_frz, ix_tup, len_tup, tpl_tup, lsl_tup, slc_tup, seq_tup, ix_lst, len_lst, tpl_lst, lsl_lst, slc_lst, seq_lst, ix_frz, len_frz, tpl_frz, lsl_frz, slc_frz, seq_frz, len_str, blt_abs, blt_int, blt_intb, blt_max, blt_min, blt_str, blt_all, blt_any, blt_sum, opt_0, opt_1, rng_1, rng_2, atI_0, atI_1, atI_2, atI_3, atI_4, ixN_20, ixN_21, ty_bl_int, ty_bl_bool, ty_bl_str, ty_bl_tuple, ty_bl_list, ht_bl, nn_bl, mu_bl, ty_int_int, ty_int_bool, ty_int_str, ty_int_tuple, ty_int_list, ht_int, nn_int, mu_int, ty_str_int, ty_str_bool, ty_str_str, ty_str_tuple, ty_str_list, ht_str, nn_str, mu_str, ty_tup_int, ty_tup_bool, ty_tup_str, ty_tup_tuple, ty_tup_list, ht_tup, nn_tup, mu_tup, ty_lst_int, ty_lst_bool, ty_lst_str, ty_lst_tuple, ty_lst_list, ht_lst, nn_lst, mu_lst, ty_frz_int, ty_frz_bool, ty_frz_str, ty_frz_tuple, ty_frz_list, ht_frz, nn_frz, mu_frz, ty_non_int, ty_non_bool, ty_non_str, ty_non_tuple, ty_non_list, ht_non, nn_non, mu_non, List.map_cons, List.map_nil, exists_eq_left', decide_eq_true_eq, exists_eq_left, List.length_cons, List.length_nil, Nat.reduceAdd, Int.reduceEq, Int.reduceLT, Int.reduceLE, Int.reduceNeg, decide_true, decide_false, Cl.own.injEq, D.tup.injEq, List.mem_cons, List.not_mem_nil, or_false, forall_eq_or_imp, forall_eq, Option.some.injEq, hi]
      exact ⟨mulR (by omega) (by omega), mulR (by omega) (by omega), hn _ _ (.refl _ _) ⟨_, _, _, rfl⟩⟩
  · rintro env ⟨a, b, c, rfl⟩
    simp only [st_for, st_nil, st_expr, st_asg, st_asgl, st_unp, st_par, st_app, st_seti, st_ret, st_retn, st_ife, st_brk, st_cnt, st_rmal, st_tr, wRet, e_var, e_int, e_bl, e_non, e_str, e_fnv, e_gint, e_bin, e_neg, e_not, e_cmp, e_chn, e_isn, e_ntn, e_and, e_or, e_ite, e_tup, e_lst, e_call, e_cio, e_clv, e_blt, e_isi, e_ix, e_slc, e_rev, e_lrng, e_lc, e_met, wA, wP, wAnd, wOr, wT, wTA, wTO, kpN_sow, kpN_seq, kpN_rng, kpN_zip, kpN_enm, i_rng, i_seq, i_zip, i_enm, wCs, wHnd, pk, at_, put, putAll, putCs, wTgt, rng_1, rng_2, zip_tt, zip_ll, enm_t, enm_l, cellOf, frE, frF, frB, isOwn, isOwnL, Op.rd, Cl.datum, List.getElem?_cons_zero, List.getElem?_cons_succ, List.getElem?_nil, Option.getD_some, Option.getD_none, List.set_cons_zero, List.set_cons_succ, ne_eq, reduceCtorEq, not_false_eq_true, not_true_eq_false, true_and, and_true, if_true, if_false, ite_true, ite_false, Bool.false_eq_true, Bool.true_eq_false, Bool.true_and, Bool.and_true, Bool.false_and, Bool.and_false, Bool.not_true, Bool.not_false, false_implies, true_implies, forall_const, implies_true, bin_add, bin_sub, bin_mul, bin_fdiv, bin_mod, bin_adds, bin_addt, bin_addl, bin_mull, bin_mult, cmp_lt, cmp_le, cmp_gt, cmp_ge, cmp_eqi, cmp_nei, cmp_eqb, cmp_eqs, tru_bl, tru_int, tru_non, tru_tup, tru_lst, tru_frz, ix_tup, len_tup, tpl_tup, lsl_tup, slc_tup, seq_tup, ix_lst, len_lst, tpl_lst, lsl_lst, slc_lst, seq_lst, ix_frz, len_frz, tpl_frz, lsl_frz, slc_frz, seq_frz, len_str, blt_abs, blt_int, blt_intb, blt_max, blt_min, blt_str, blt_all, blt_any, blt_sum, opt_0, opt_1, rng_1, rng_2, atI_0, atI_1, atI_2, atI_3, atI_4, ixN_20, ixN_21, ty_bl_int, ty_bl_bool, ty_bl_str, ty_bl_tuple, ty_bl_list, ht_bl, nn_bl, mu_bl, ty_int_int, ty_int_bool, ty_int_str, ty_int_tuple, ty_int_list, ht_int, nn_int, mu_int, ty_str_int, ty_str_bool, ty_str_str, ty_str_tuple, ty_str_list, ht_str, nn_str, mu_str, ty_tup_int, ty_tup_bool, ty_tup_str, ty_tup_tuple, ty_tup_list, ht_tup, nn_tup, mu_tup, ty_lst_int, ty_lst_bool, ty_lst_str, ty_lst_tuple, ty_lst_list, ht_lst, nn_lst, mu_lst, ty_frz_int, ty_frz_bool, ty_frz_str, ty_frz_tuple, ty_frz_list, ht_frz, nn_frz, mu_frz, ty_non_int, ty_non_bool, ty_non_str, ty_non_tuple, ty_non_list, ht_non, nn_non, mu_non, List.map_cons, List.map_nil, exists_eq_left', decide_eq_true_eq, exists_eq_left, List.length_cons, List.length_nil, Nat.reduceAdd, Int.reduceEq, Int.reduceLT, Int.reduceLE, Int.reduceNeg, decide_true, decide_false, Cl.own.injEq, D.tup.injEq, List.mem_cons, List.not_mem_nil, or_false, forall_eq_or_imp, forall_eq, Option.some.injEq, hi]
    split
    · exact hp _ _
    · exact hp _ _
/-! ### _law_take(state, m) -/
def B_take : S := .seq (.ife (.tst (.cmp .gt (.ix (.var 0) (.int 0)) (.int 0))) (.seq (.asg 2 (.bin .mod (.blt .int (.cons (.ix (.var 0) (.int 0)) .nil)) (.var 1)))
    (.seq (.seti 0 (.int 0) (.bin .fdiv (.ix (.var 0) (.int 0)) (.var 1)))
    (.seq (.ret (.var 2)) .nil))) (.nil))
  (.seq (.seti 0 (.int 1) (.bin .mod (.blt .int (.cons (.bin .add (.bin .mul (.ix (.var 0) (.int 1)) (.int 48271)) (.int 11)) .nil)) (.int 2147483647)))
  (.seq (.ret (.bin .mod (.blt .int (.cons (.bin .fdiv (.ix (.var 0) (.int 1)) (.int 7)) .nil)) (.var 1))) .nil))
def take : Spec := fun ds P _ => ∃ a b m : Int, ds = [.lst [.int a, .int b], .int m] ∧ 0 < m ∧ m < 1073741824 ∧ ∀ v a' b' : Int, 0 ≤ v → v < m → P (.int v) (.lst [.int a', .int b'])
theorem W_take (hi : G.iop = some 0) (h : take ds P Ex) : ∃ d0 ds', ds = d0 :: ds' ∧ ds.length = 2 ∧ wS G B_take (.own d0 :: vals ds' (3 - ds.length)) (poI P) := by
  obtain ⟨a, b, m, rfl, hm, hm2, hp⟩ := h
  refine ⟨_, _, rfl, rfl, ?_⟩
  show wS _ B_take [.own (.lst [.int a, .int b]), .val (.int m), .emp] _
  unfold B_take
  simp only [st_for, st_nil, st_expr, st_asg, st_asgl, st_unp, st_par, st_app, st_seti, st_ret, st_retn, st_ife, st_brk, st_cnt, st_rmal, st_tr, wRet, e_var, e_int, e_bl, e_non, e_str, e_fnv, e_gint, e_bin, e_neg, e_not, e_cmp, e_chn, e_isn, e_ntn, e_and, e_or, e_ite, e_tup, e_lst, e_call, e_cio, e_clv, e_blt, e_isi, e_ix, e_slc, e_rev, e_lrng, e_lc, e_met, wA, wP, wAnd, wOr, wT, wTA, wTO, kpN_sow, kpN_seq, kpN_rng, kpN_zip, kpN_enm, i_rng, i_seq, i_zip, i_enm, wCs, wHnd, pk, at_, put, putAll, putCs, wTgt, rng_1, rng_2, zip_tt, zip_ll, enm_t, enm_l, cellOf, frE, frF, frB, isOwn, isOwnL, Op.rd, Cl.datum, List.getElem?_cons_zero, List.getElem?_cons_succ, List.getElem?_nil, Option.getD_some, Option.getD_none, List.set_cons_zero, List.set_cons_succ, ne_eq, reduceCtorEq, not_false_eq_true, not_true_eq_false, true_and, and_true, if_true, if_false, ite_true, ite_false, Bool.false_eq_true, Bool.true_eq_false, Bool.true_and, Bool.and_true, Bool.false_and, Bool.and_false, Bool.not_true, Bool.not_false, false_implies, true_implies, forall_const, implies_true, bin_add, bin_sub, bin_mul, bin_fdiv, bin_mod, bin_adds, bin_addt, bin_addl, bin_mull, bin_mult, cmp_lt, cmp_le, cmp_gt, cmp_ge, cmp_eqi, cmp_nei, cmp_eqb, cmp_eqs, tru_bl, tru_int, tru_non, tru_tup, tru_lst, tru_frz, ix_tup, len_tup, tpl_tup, lsl_tup, slc_tup, seq_tup, ix_lst, len_lst, tpl_lst, lsl_lst, slc_lst, seq_lst, ix_frz, len_frz, tpl_frz, lsl_frz, slc_frz, seq_frz, len_str, blt_abs, blt_int, blt_intb, blt_max, blt_min, blt_str, blt_all, blt_any, blt_sum, opt_0, opt_1, rng_1, rng_2, atI_0, atI_1, atI_2, atI_3, atI_4, ixN_20, ixN_21, ty_bl_int, ty_bl_bool, ty_bl_str, ty_bl_tuple, ty_bl_list, ht_bl, nn_bl, mu_bl, ty_int_int, ty_int_bool, ty_int_str, ty_int_tuple, ty_int_list, ht_int, nn_int, mu_int, ty_str_int, ty_str_bool, ty_str_str, ty_str_tuple, ty_str_list, ht_str, nn_str, mu_str, ty_tup_int, ty_tup_bool, ty_tup_str, ty_tup_tuple, ty_tup_list, ht_tup, nn_tup, mu_tup, ty_lst_int, ty_lst_bool, ty_lst_str, ty_lst_tuple, ty_lst_list, ht_lst, nn_lst, mu_lst, ty_frz_int, ty_frz_bool, ty_frz_str, ty_frz_tuple, ty_frz_list, ht_frz, nn_frz, mu_frz, ty_non_int, ty_non_bool, ty_non_str, ty_non_tuple, ty_non_list, ht_non, nn_non, mu_non, List.map_cons, List.map_nil, exists_eq_left', decide_eq_true_eq, exists_eq_left, List.length_cons, List.length_nil, Nat.reduceAdd, Int.reduceEq, Int.reduceLT, Int.reduceLE, Int.reduceNeg, decide_true, decide_false, Cl.own.injEq, D.tup.injEq, List.mem_cons, List.not_mem_nil, or_false, forall_eq_or_imp, forall_eq, Option.some.injEq, hi]
  split
  · exact ⟨by omega, divOk hm hm2, hp _ _ _ (fm hm).1 (fm hm).2⟩
  · exact ⟨mulR (by omega) (by omega), divOk (by omega) (by omega), by omega, hp _ _ _ (fm hm).1 (fm hm).2⟩
/-! ### _law_great(state) -/
def B_great (t : Nat) : S := .seq (.asg 1 (.cio t 0 (.cons (.int 5) .nil)))
  (.seq (.asg 2 (.cio t 0 (.cons (.int 60) .nil)))
  (.seq (.ife (.tst (.cmp .gt (.var 1) (.int 2))) (.seq (.asg 2 (.bin .add (.bin .mul (.var 2) (.int 1000)) (.cio t 0 (.cons (.int 1000) .nil)))) .nil) (.nil))
  (.seq (.ife (.tst (.cmp .eq (.var 1) (.int 4))) (.seq (.asg 2 (.bin .add (.bin .mul (.var 2) (.int 100000000000000000000)) (.bin .mul (.cio t 0 (.cons (.int 1000003) .nil)) (.int 1000000007)))) .nil) (.nil))
  (.seq (.ret (.var 2)) .nil))))
def great : Spec := fun ds P _ => ∃ a b : Int, ds = [.lst [.int a, .int b]] ∧ ∀ v a' b' : Int, 0 ≤ v → v < 100000000000000000000000000 → P (.int v) (.lst [.int a', .int b'])
theorem W_great {t : Nat} (hi : G.iop = some 0) (ht : G.sp t = take) (hf : G.tb.fr t = false) (h : great ds P Ex) : ∃ d0 ds', ds = d0 :: ds' ∧ ds.length = 1 ∧ wS G (B_great t) (.own d0 :: vals ds' (3 - ds.length)) (poI P) := by
  obtain ⟨a, b, rfl, hp⟩ := h
  refine ⟨_, _, rfl, rfl, ?_⟩
  show wS _ (B_great t) [.own (.lst [.int a, .int b]), .emp, .emp] _
  unfold B_great
  simp only [st_for, st_nil, st_expr, st_asg, st_asgl, st_unp, st_par, st_app, st_seti, st_ret, st_retn, st_ife, st_brk, st_cnt, st_rmal, st_tr, wRet, e_var, e_int, e_bl, e_non, e_str, e_fnv, e_gint, e_bin, e_neg, e_not, e_cmp, e_chn, e_isn, e_ntn, e_and, e_or, e_ite, e_tup, e_lst, e_call, e_cio, e_clv, e_blt, e_isi, e_ix, e_slc, e_rev, e_lrng, e_lc, e_met, wA, wP, wAnd, wOr, wT, wTA, wTO, kpN_sow, kpN_seq, kpN_rng, kpN_zip, kpN_enm, i_rng, i_seq, i_zip, i_enm, wCs, wHnd, pk, at_, put, putAll, putCs, wTgt, rng_1, rng_2, zip_tt, zip_ll, enm_t, enm_l, cellOf, frE, frF, frB, isOwn, isOwnL, Op.rd, Cl.datum, List.getElem?_cons_zero, List.getElem?_cons_succ, List.getElem?_nil, Option.getD_some, Option.getD_none, List.set_cons_zero, List.set_cons_succ, ne_eq, reduceCtorEq, not_false_eq_true, not_true_eq_false, true_and, and_true, if_true, if_false, ite_true, ite_false, Bool.false_eq_true, Bool.true_eq_false, Bool.true_and, Bool.and_true, Bool.false_and, Bool.and_false, Bool.not_true, Bool.not_false, false_implies, true_implies, forall_const, implies_true, bin_add, bin_sub, bin_mul, bin_fdiv, bin_mod, bin_adds, bin_addt, bin_addl, bin_mull, bin_mult, cmp_lt, cmp_le, cmp_gt, cmp_ge, cmp_eqi, cmp_nei, cmp_eqb, cmp_eqs, tru_bl, tru_int, tru_non, tru_tup, tru_lst, tru_frz, ix_tup, len_tup, tpl_tup, lsl_tup, slc_tup, seq_tup, ix_lst, len_lst, tpl_lst, lsl_lst, slc_lst, seq_lst, ix_frz, len_frz, tpl_frz, lsl_frz, slc_frz, seq_frz, len_str, blt_abs, blt_int, blt_intb, blt_max, blt_min, blt_str, blt_all, blt_any, blt_sum, opt_0, opt_1, rng_1, rng_2, atI_0, atI_1, atI_2, atI_3, atI_4, ixN_20, ixN_21, ty_bl_int, ty_bl_bool, ty_bl_str, ty_bl_tuple, ty_bl_list, ht_bl, nn_bl, mu_bl, ty_int_int, ty_int_bool, ty_int_str, ty_int_tuple, ty_int_list, ht_int, nn_int, mu_int, ty_str_int, ty_str_bool, ty_str_str, ty_str_tuple, ty_str_list, ht_str, nn_str, mu_str, ty_tup_int, ty_tup_bool, ty_tup_str, ty_tup_tuple, ty_tup_list, ht_tup, nn_tup, mu_tup, ty_lst_int, ty_lst_bool, ty_lst_str, ty_lst_tuple, ty_lst_list, ht_lst, nn_lst, mu_lst, ty_frz_int, ty_frz_bool, ty_frz_str, ty_frz_tuple, ty_frz_list, ht_frz, nn_frz, mu_frz, ty_non_int, ty_non_bool, ty_non_str, ty_non_tuple, ty_non_list, ht_non, nn_non, mu_non, List.map_cons, List.map_nil, exists_eq_left', decide_eq_true_eq, exists_eq_left, List.length_cons, List.length_nil, Nat.reduceAdd, Int.reduceEq, Int.reduceLT, Int.reduceLE, Int.reduceNeg, decide_true, decide_false, Cl.own.injEq, D.tup.injEq, List.mem_cons, List.not_mem_nil, or_false, forall_eq_or_imp, forall_eq, Option.some.injEq, hi, ht, hf]
  refine ⟨a, b, 5, rfl, by omega, by omega, fun k a1 b1 k1 k2 => ?_⟩
  simp only [st_for, st_nil, st_expr, st_asg, st_asgl, st_unp, st_par, st_app, st_seti, st_ret, st_retn, st_ife, st_brk, st_cnt, st_rmal, st_tr, wRet, e_var, e_int, e_bl, e_non, e_str, e_fnv, e_gint, e_bin, e_neg, e_not, e_cmp, e_chn, e_isn, e_ntn, e_and, e_or, e_ite, e_tup, e_lst, e_call, e_cio, e_clv, e_blt, e_isi, e_ix, e_slc, e_rev, e_lrng, e_lc, e_met, wA, wP, wAnd, wOr, wT, wTA, wTO, kpN_sow, kpN_seq, kpN_rng, kpN_zip, kpN_enm, i_rng, i_seq, i_zip, i_enm, wCs, wHnd, pk, at_, put, putAll, putCs, wTgt, rng_1, rng_2, zip_tt, zip_ll, enm_t, enm_l, cellOf, frE, frF, frB, isOwn, isOwnL, Op.rd, Cl.datum, List.getElem?_cons_zero, List.getElem?_cons_succ, List.getElem?_nil, Option.getD_some, Option.getD_none, List.set_cons_zero, List.set_cons_succ, ne_eq, reduceCtorEq, not_false_eq_true, not_true_eq_false, true_and, and_true, if_true, if_false, ite_true, ite_false, Bool.false_eq_true, Bool.true_eq_false, Bool.true_and, Bool.and_true, Bool.false_and, Bool.and_false, Bool.not_true, Bool.not_false, false_implies, true_implies, forall_const, implies_true, bin_add, bin_sub, bin_mul, bin_fdiv, bin_mod, bin_adds, bin_addt, bin_addl, bin_mull, bin_mult, cmp_lt, cmp_le, cmp_gt, cmp_ge, cmp_eqi, cmp_nei, cmp_eqb, cmp_eqs, tru_bl, tru_int, tru_non, tru_tup, tru_lst, tru_frz, ix_tup, len_tup, tpl_tup, lsl_tup, slc_tup, seq_tup, ix_lst, len_lst, tpl_lst, lsl_lst, slc_lst, seq_lst, ix_frz, len_frz, tpl_frz, lsl_frz, slc_frz, seq_frz, len_str, blt_abs, blt_int, blt_intb, blt_max, blt_min, blt_str, blt_all, blt_any, blt_sum, opt_0, opt_1, rng_1, rng_2, atI_0, atI_1, atI_2, atI_3, atI_4, ixN_20, ixN_21, ty_bl_int, ty_bl_bool, ty_bl_str, ty_bl_tuple, ty_bl_list, ht_bl, nn_bl, mu_bl, ty_int_int, ty_int_bool, ty_int_str, ty_int_tuple, ty_int_list, ht_int, nn_int, mu_int, ty_str_int, ty_str_bool, ty_str_str, ty_str_tuple, ty_str_list, ht_str, nn_str, mu_str, ty_tup_int, ty_tup_bool, ty_tup_str, ty_tup_tuple, ty_tup_list, ht_tup, nn_tup, mu_tup, ty_lst_int, ty_lst_bool, ty_lst_str, ty_lst_tuple, ty_lst_list, ht_lst, nn_lst, mu_lst, ty_frz_int, ty_frz_bool, ty_frz_str, ty_frz_tuple, ty_frz_list, ht_frz, nn_frz, mu_frz, ty_non_int, ty_non_bool, ty_non_str, ty_non_tuple, ty_non_list, ht_non, nn_non, mu_non, List.map_cons, List.map_nil, exists_eq_left', decide_eq_true_eq, exists_eq_left, List.length_cons, List.length_nil, Nat.reduceAdd, Int.reduceEq, Int.reduceLT, Int.reduceLE, Int.reduceNeg, decide_true, decide_false, Cl.own.injEq, D.tup.injEq, List.mem_cons, List.not_mem_nil, or_false, forall_eq_or_imp, forall_eq, Option.some.injEq, hi, ht, hf]
  refine ⟨a1, b1, 60, rfl, by omega, by omega, fun n a2 b2 n1 n2 => ?_⟩
  simp only [st_for, st_nil, st_expr, st_asg, st_asgl, st_unp, st_par, st_app, st_seti, st_ret, st_retn, st_ife, st_brk, st_cnt, st_rmal, st_tr, wRet, e_var, e_int, e_bl, e_non, e_str, e_fnv, e_gint, e_bin, e_neg, e_not, e_cmp, e_chn, e_isn, e_ntn, e_and, e_or, e_ite, e_tup, e_lst, e_call, e_cio, e_clv, e_blt, e_isi, e_ix, e_slc, e_rev, e_lrng, e_lc, e_met, wA, wP, wAnd, wOr, wT, wTA, wTO, kpN_sow, kpN_seq, kpN_rng, kpN_zip, kpN_enm, i_rng, i_seq, i_zip, i_enm, wCs, wHnd, pk, at_, put, putAll, putCs, wTgt, rng_1, rng_2, zip_tt, zip_ll, enm_t, enm_l, cellOf, frE, frF, frB, isOwn, isOwnL, Op.rd, Cl.datum, List.getElem?_cons_zero, List.getElem?_cons_succ, List.getElem?_nil, Option.getD_some, Option.getD_none, List.set_cons_zero, List.set_cons_succ, ne_eq, reduceCtorEq, not_false_eq_true, not_true_eq_false, true_and, and_true, if_true, if_false, ite_true, ite_false, Bool.false_eq_true, Bool.true_eq_false, Bool.true_and, Bool.and_true, Bool.false_and, Bool.and_false, Bool.not_true, Bool.not_false, false_implies, true_implies, forall_const, implies_true, bin_add, bin_sub, bin_mul, bin_fdiv, bin_mod, bin_adds, bin_addt, bin_addl, bin_mull, bin_mult, cmp_lt, cmp_le, cmp_gt, cmp_ge, cmp_eqi, cmp_nei, cmp_eqb, cmp_eqs, tru_bl, tru_int, tru_non, tru_tup, tru_lst, tru_frz, ix_tup, len_tup, tpl_tup, lsl_tup, slc_tup, seq_tup, ix_lst, len_lst, tpl_lst, lsl_lst, slc_lst, seq_lst, ix_frz, len_frz, tpl_frz, lsl_frz, slc_frz, seq_frz, len_str, blt_abs, blt_int, blt_intb, blt_max, blt_min, blt_str, blt_all, blt_any, blt_sum, opt_0, opt_1, rng_1, rng_2, atI_0, atI_1, atI_2, atI_3, atI_4, ixN_20, ixN_21, ty_bl_int, ty_bl_bool, ty_bl_str, ty_bl_tuple, ty_bl_list, ht_bl, nn_bl, mu_bl, ty_int_int, ty_int_bool, ty_int_str, ty_int_tuple, ty_int_list, ht_int, nn_int, mu_int, ty_str_int, ty_str_bool, ty_str_str, ty_str_tuple, ty_str_list, ht_str, nn_str, mu_str, ty_tup_int, ty_tup_bool, ty_tup_str, ty_tup_tuple, ty_tup_list, ht_tup, nn_tup, mu_tup, ty_lst_int, ty_lst_bool, ty_lst_str, ty_lst_tuple, ty_lst_list, ht_lst, nn_lst, mu_lst, ty_frz_int, ty_frz_bool, ty_frz_str, ty_frz_tuple, ty_frz_list, ht_frz, nn_frz, mu_frz, ty_non_int, ty_non_bool, ty_non_str, ty_non_tuple, ty_non_list, ht_non, nn_non, mu_non, List.map_cons, List.map_nil, exists_eq_left', decide_eq_true_eq, exists_eq_left, List.length_cons, List.length_nil, Nat.reduceAdd, Int.reduceEq, Int.reduceLT, Int.reduceLE, Int.reduceNeg, decide_true, decide_false, Cl.own.injEq, D.tup.injEq, List.mem_cons, List.not_mem_nil, or_false, forall_eq_or_imp, forall_eq, Option.some.injEq, hi, ht, hf]
  split
  · refine ⟨mulR (by omega) (by omega), a2, b2, 1000, rfl, by omega, by omega, fun x a3 b3 x1 x2 => ?_⟩
    simp only [st_for, st_nil, st_expr, st_asg, st_asgl, st_unp, st_par, st_app, st_seti, st_ret, st_retn, st_ife, st_brk, st_cnt, st_rmal, st_tr, wRet, e_var, e_int, e_bl, e_non, e_str, e_fnv, e_gint, e_bin, e_neg, e_not, e_cmp, e_chn, e_isn, e_ntn, e_and, e_or, e_ite, e_tup, e_lst, e_call, e_cio, e_clv, e_blt, e_isi, e_ix, e_slc, e_rev, e_lrng, e_lc, e_met, wA, wP, wAnd, wOr, wT, wTA, wTO, kpN_sow, kpN_seq, kpN_rng, kpN_zip, kpN_enm, i_rng, i_seq, i_zip, i_enm, wCs, wHnd, pk, at_, put, putAll, putCs, wTgt, rng_1, rng_2, zip_tt, zip_ll, enm_t, enm_l, cellOf, frE, frF, frB, isOwn, isOwnL, Op.rd, Cl.datum, List.getElem?_cons_zero, List.getElem?_cons_succ, List.getElem?_nil, Option.getD_some, Option.getD_none, List.set_cons_zero, List.set_cons_succ, ne_eq, reduceCtorEq, not_false_eq_true, not_true_eq_false, true_and, and_true, if_true, if_false, ite_true, ite_false, Bool.false_eq_true, Bool.true_eq_false, Bool.true_and, Bool.and_true, Bool.false_and, Bool.and_false, Bool.not_true, Bool.not_false, false_implies, true_implies, forall_const, implies_true, bin_add, bin_sub, bin_mul, bin_fdiv, bin_mod, bin_adds, bin_addt, bin_addl, bin_mull, bin_mult, cmp_lt, cmp_le, cmp_gt, cmp_ge, cmp_eqi, cmp_nei, cmp_eqb, cmp_eqs, tru_bl, tru_int, tru_non, tru_tup, tru_lst, tru_frz, ix_tup, len_tup, tpl_tup, lsl_tup, slc_tup, seq_tup, ix_lst, len_lst, tpl_lst, lsl_lst, slc_lst, seq_lst, ix_frz, len_frz, tpl_frz, lsl_frz, slc_frz, seq_frz, len_str, blt_abs, blt_int, blt_intb, blt_max, blt_min, blt_str, blt_all, blt_any, blt_sum, opt_0, opt_1, rng_1, rng_2, atI_0, atI_1, atI_2, atI_3, atI_4, ixN_20, ixN_21, ty_bl_int, ty_bl_bool, ty_bl_str, ty_bl_tuple, ty_bl_list, ht_bl, nn_bl, mu_bl, ty_int_int, ty_int_bool, ty_int_str, ty_int_tuple, ty_int_list, ht_int, nn_int, mu_int, ty_str_int, ty_str_bool, ty_str_str, ty_str_tuple, ty_str_list, ht_str, nn_str, mu_str, ty_tup_int, ty_tup_bool, ty_tup_str, ty_tup_tuple, ty_tup_list, ht_tup, nn_tup, mu_tup, ty_lst_int, ty_lst_bool, ty_lst_str, ty_lst_tuple, ty_lst_list, ht_lst, nn_lst, mu_lst, ty_frz_int, ty_frz_bool, ty_frz_str, ty_frz_tuple, ty_frz_list, ht_frz, nn_frz, mu_frz, ty_non_int, ty_non_bool, ty_non_str, ty_non_tuple, ty_non_list, ht_non, nn_non, mu_non, List.map_cons, List.map_nil, exists_eq_left', decide_eq_true_eq, exists_eq_left, List.length_cons, List.length_nil, Nat.reduceAdd, Int.reduceEq, Int.reduceLT, Int.reduceLE, Int.reduceNeg, decide_true, decide_false, Cl.own.injEq, D.tup.injEq, List.mem_cons, List.not_mem_nil, or_false, forall_eq_or_imp, forall_eq, Option.some.injEq, hi, ht, hf]
    split
    · refine ⟨mulL (by omega) (by omega), a3, b3, 1000003, rfl, by omega, by omega, fun y a4 b4 y1 y2 => ?_⟩
      simp only [st_for, st_nil, st_expr, st_asg, st_asgl, st_unp, st_par, st_app, st_seti, st_ret, st_retn, st_ife, st_brk, st_cnt, st_rmal, st_tr, wRet, e_var, e_int, e_bl, e_non, e_str, e_fnv, e_gint, e_bin, e_neg, e_not, e_cmp, e_chn, e_isn, e_ntn, e_and, e_or, e_ite, e_tup, e_lst, e_call, e_cio, e_clv, e_blt, e_isi, e_ix, e_slc, e_rev, e_lrng, e_lc, e_met, wA, wP, wAnd, wOr, wT, wTA, wTO, kpN_sow, kpN_seq, kpN_rng, kpN_zip, kpN_enm, i_rng, i_seq, i_zip, i_enm, wCs, wHnd, pk, at_, put, putAll, putCs, wTgt, rng_1, rng_2, zip_tt, zip_ll, enm_t, enm_l, cellOf, frE, frF, frB, isOwn, isOwnL, Op.rd, Cl.datum, List.getElem?_cons_zero, List.getElem?_cons_succ, List.getElem?_nil, Option.getD_some, Option.getD_none, List.set_cons_zero, List.set_cons_succ, ne_eq, reduceCtorEq, not_false_eq_true, not_true_eq_false, true_and, and_true, if_true, if_false, ite_true, ite_false, Bool.false_eq_true, Bool.true_eq_false, Bool.true_and, Bool.and_true, Bool.false_and, Bool.and_false, Bool.not_true, Bool.not_false, false_implies, true_implies, forall_const, implies_true, bin_add, bin_sub, bin_mul, bin_fdiv, bin_mod, bin_adds, bin_addt, bin_addl, bin_mull, bin_mult, cmp_lt, cmp_le, cmp_gt, cmp_ge, cmp_eqi, cmp_nei, cmp_eqb, cmp_eqs, tru_bl, tru_int, tru_non, tru_tup, tru_lst, tru_frz, ix_tup, len_tup, tpl_tup, lsl_tup, slc_tup, seq_tup, ix_lst, len_lst, tpl_lst, lsl_lst, slc_lst, seq_lst, ix_frz, len_frz, tpl_frz, lsl_frz, slc_frz, seq_frz, len_str, blt_abs, blt_int, blt_intb, blt_max, blt_min, blt_str, blt_all, blt_any, blt_sum, opt_0, opt_1, rng_1, rng_2, atI_0, atI_1, atI_2, atI_3, atI_4, ixN_20, ixN_21, ty_bl_int, ty_bl_bool, ty_bl_str, ty_bl_tuple, ty_bl_list, ht_bl, nn_bl, mu_bl, ty_int_int, ty_int_bool, ty_int_str, ty_int_tuple, ty_int_list, ht_int, nn_int, mu_int, ty_str_int, ty_str_bool, ty_str_str, ty_str_tuple, ty_str_list, ht_str, nn_str, mu_str, ty_tup_int, ty_tup_bool, ty_tup_str, ty_tup_tuple, ty_tup_list, ht_tup, nn_tup, mu_tup, ty_lst_int, ty_lst_bool, ty_lst_str, ty_lst_tuple, ty_lst_list, ht_lst, nn_lst, mu_lst, ty_frz_int, ty_frz_bool, ty_frz_str, ty_frz_tuple, ty_frz_list, ht_frz, nn_frz, mu_frz, ty_non_int, ty_non_bool, ty_non_str, ty_non_tuple, ty_non_list, ht_non, nn_non, mu_non, List.map_cons, List.map_nil, exists_eq_left', decide_eq_true_eq, exists_eq_left, List.length_cons, List.length_nil, Nat.reduceAdd, Int.reduceEq, Int.reduceLT, Int.reduceLE, Int.reduceNeg, decide_true, decide_false, Cl.own.injEq, D.tup.injEq, List.mem_cons, List.not_mem_nil, or_false, forall_eq_or_imp, forall_eq, Option.some.injEq, hi, ht, hf]
      exact ⟨mulR (by omega) (by omega), hp _ _ _ (by omega) (by omega)⟩
    · exact hp _ _ _ (by omega) (by omega)
  · split
    · refine ⟨mulL (by omega) (by omega), a2, b2, 1000003, rfl, by omega, by omega, fun y a4 b4 y1 y2 => ?_⟩
      simp only [st_for, st_nil, st_expr, st_asg, st_asgl, st_unp, st_par, st_app, st_seti, st_ret, st_retn, st_ife, st_brk, st_cnt, st_rmal, st_tr, wRet, e_var, e_int, e_bl, e_non, e_str, e_fnv, e_gint, e_bin, e_neg, e_not, e_cmp, e_chn, e_isn, e_ntn, e_and, e_or, e_ite, e_tup, e_lst, e_call, e_cio, e_clv, e_blt, e_isi, e_ix, e_slc, e_rev, e_lrng, e_lc, e_met, wA, wP, wAnd, wOr, wT, wTA, wTO, kpN_sow, kpN_seq, kpN_rng, kpN_zip, kpN_enm, i_rng, i_seq, i_zip, i_enm, wCs, wHnd, pk, at_, put, putAll, putCs, wTgt, rng_1, rng_2, zip_tt, zip_ll, enm_t, enm_l, cellOf, frE, frF, frB, isOwn, isOwnL, Op.rd, Cl.datum, List.getElem?_cons_zero, List.getElem?_cons_succ, List.getElem?_nil, Option.getD_some, Option.getD_none, List.set_cons_zero, List.set_cons_succ, ne_eq, reduceCtorEq, not_false_eq_true, not_true_eq_false, true_and, and_true, if_true, if_false, ite_true, ite_false, Bool.false_eq_true, Bool.true_eq_false, Bool.true_and, Bool.and_true, Bool.false_and, Bool.and_false, Bool.not_true, Bool.not_false, false_implies, true_implies, forall_const, implies_true, bin_add, bin_sub, bin_mul, bin_fdiv, bin_mod, bin_adds, bin_addt, bin_addl, bin_mull, bin_mult, cmp_lt, cmp_le, cmp_gt, cmp_ge, cmp_eqi, cmp_nei, cmp_eqb, cmp_eqs, tru_bl, tru_int, tru_non, tru_tup, tru_lst, tru_frz, ix_tup, len_tup, tpl_tup, lsl_tup, slc_tup, seq_tup, ix_lst, len_lst, tpl_lst, lsl_lst, slc_lst, seq_lst, ix_frz, len_frz, tpl_frz, lsl_frz, slc_frz, seq_frz, len_str, blt_abs, blt_int, blt_intb, blt_max, blt_min, blt_str, blt_all, blt_any, blt_sum, opt_0, opt_1, rng_1, rng_2, atI_0, atI_1, atI_2, atI_3, atI_4, ixN_20, ixN_21, ty_bl_int, ty_bl_bool, ty_bl_str, ty_bl_tuple, ty_bl_list, ht_bl, nn_bl, mu_bl, ty_int_int, ty_int_bool, ty_int_str, ty_int_tuple, ty_int_list, ht_int, nn_int, mu_int, ty_str_int, ty_str_bool, ty_str_str, ty_str_tuple, ty_str_list, ht_str, nn_str, mu_str, ty_tup_int, ty_tup_bool, ty_tup_str, ty_tup_tuple, ty_tup_list, ht_tup, nn_tup, mu_tup, ty_lst_int, ty_lst_bool, ty_lst_str, ty_lst_tuple, ty_lst_list, ht_lst, nn_lst, mu_lst, ty_frz_int, ty_frz_bool, ty_frz_str, ty_frz_tuple, ty_frz_list, ht_frz, nn_frz, mu_frz, ty_non_int, ty_non_bool, ty_non_str, ty_non_tuple, ty_non_list, ht_non, nn_non, mu_non, List.map_cons, List.map_nil, exists_eq_left', decide_eq_true_eq, exists_eq_left, List.length_cons, List.length_nil, Nat.reduceAdd, Int.reduceEq, Int.reduceLT, Int.reduceLE, Int.reduceNeg, decide_true, decide_false, Cl.own.injEq, D.tup.injEq, List.mem_cons, List.not_mem_nil, or_false, forall_eq_or_imp, forall_eq, Option.some.injEq, hi, ht, hf]
      exact ⟨mulR (by omega) (by omega), hp _ _ _ (by omega) (by omega)⟩
    · exact hp _ _ _ (by omega) (by omega)
/-! ### is_whole_row(value) -/
def B_isrow (n : Nat) : S := .seq (.ret (.and (.cons (.isi (.var 0) .tuple) (.cons (.blt .all (.cons (.lc [1] false (.seq (.var 0)) .nil (.call n (.cons (.var 1) .nil))) .nil)) .nil)))) .nil
def isRow (d : D) : Bool := match d with
  | .tup xs => xs.all isI
  | _ => false
/-- of a tuple's items the type is asked -/
def rowOk (d : D) : Prop := hasTy d = true ∧ ∀ xs, d = .tup xs → xs.length ≤ sizeLine ∧ ∀ x ∈ xs, hasTy x = true
def isrow : Spec := fun ds P _ => ∃ d, ds = [d] ∧ rowOk d ∧ P (.bl (isRow d)) .non
theorem bls_map {g : D → Bool} : ∀ xs : List D, blsD (xs.map fun x => .bl (g x)) = some (xs.map g)
  | [] => rfl
  | x :: xs => by
    show (blsD (xs.map fun x => .bl (g x))).map (g x :: ·) = _
    rw [bls_map xs]
    rfl
theorem all_map {g : D → Bool} (xs : List D) : (xs.map g).all id = xs.all g := by
  induction xs with
  | nil => rfl
  | cons x xs ih => simp [ih]
theorem any_map {g : D → Bool} (xs : List D) : (xs.map g).any id = xs.any g := by
  induction xs with
  | nil => rfl
  | cons x xs ih => simp [ih]
theorem W_isrow {n : Nat} (hi : G.iop = none) (hn : G.sp n = isint) (h : isrow ds P Ex) : ds.length = 1 ∧ wS G (B_isrow n) (vals ds (2 - ds.length)) (poV P Ex) := by
  obtain ⟨d, rfl, ⟨hd, hx⟩, hp⟩ := h
  refine ⟨rfl, ?_⟩
  show wS _ (B_isrow n) [.val d, .emp] _
  unfold B_isrow
  simp only [st_for, st_nil, st_expr, st_asg, st_asgl, st_unp, st_par, st_app, st_seti, st_ret, st_retn, st_ife, st_brk, st_cnt, st_rmal, st_tr, wRet, e_var, e_int, e_bl, e_non, e_str, e_fnv, e_gint, e_bin, e_neg, e_not, e_cmp, e_chn, e_isn, e_ntn, e_and, e_or, e_ite, e_tup, e_lst, e_call, e_cio, e_clv, e_blt, e_isi, e_ix, e_slc, e_rev, e_lrng, e_lc, e_met, wA, wP, wAnd, wOr, wT, wTA, wTO, kpN_sow, kpN_seq, kpN_rng, kpN_zip, kpN_enm, i_rng, i_seq, i_zip, i_enm, wCs, wHnd, pk, at_, put, putAll, putCs, wTgt, rng_1, rng_2, zip_tt, zip_ll, enm_t, enm_l, cellOf, frE, frF, frB, isOwn, isOwnL, Op.rd, Cl.datum, List.getElem?_cons_zero, List.getElem?_cons_succ, List.getElem?_nil, Option.getD_some, Option.getD_none, List.set_cons_zero, List.set_cons_succ, ne_eq, reduceCtorEq, not_false_eq_true, not_true_eq_false, true_and, and_true, if_true, if_false, ite_true, ite_false, Bool.false_eq_true, Bool.true_eq_false, Bool.true_and, Bool.and_true, Bool.false_and, Bool.and_false, Bool.not_true, Bool.not_false, false_implies, true_implies, forall_const, implies_true, bin_add, bin_sub, bin_mul, bin_fdiv, bin_mod, bin_adds, bin_addt, bin_addl, bin_mull, bin_mult, cmp_lt, cmp_le, cmp_gt, cmp_ge, cmp_eqi, cmp_nei, cmp_eqb, cmp_eqs, tru_bl, tru_int, tru_non, tru_tup, tru_lst, tru_frz, ix_tup, len_tup, tpl_tup, lsl_tup, slc_tup, seq_tup, ix_lst, len_lst, tpl_lst, lsl_lst, slc_lst, seq_lst, ix_frz, len_frz, tpl_frz, lsl_frz, slc_frz, seq_frz, len_str, blt_abs, blt_int, blt_intb, blt_max, blt_min, blt_str, blt_all, blt_any, blt_sum, opt_0, opt_1, rng_1, rng_2, atI_0, atI_1, atI_2, atI_3, atI_4, ixN_20, ixN_21, ty_bl_int, ty_bl_bool, ty_bl_str, ty_bl_tuple, ty_bl_list, ht_bl, nn_bl, mu_bl, ty_int_int, ty_int_bool, ty_int_str, ty_int_tuple, ty_int_list, ht_int, nn_int, mu_int, ty_str_int, ty_str_bool, ty_str_str, ty_str_tuple, ty_str_list, ht_str, nn_str, mu_str, ty_tup_int, ty_tup_bool, ty_tup_str, ty_tup_tuple, ty_tup_list, ht_tup, nn_tup, mu_tup, ty_lst_int, ty_lst_bool, ty_lst_str, ty_lst_tuple, ty_lst_list, ht_lst, nn_lst, mu_lst, ty_frz_int, ty_frz_bool, ty_frz_str, ty_frz_tuple, ty_frz_list, ht_frz, nn_frz, mu_frz, ty_non_int, ty_non_bool, ty_non_str, ty_non_tuple, ty_non_list, ht_non, nn_non, mu_non, List.map_cons, List.map_nil, exists_eq_left', decide_eq_true_eq, exists_eq_left, List.length_cons, List.length_nil, Nat.reduceAdd, Int.reduceEq, Int.reduceLT, Int.reduceLE, Int.reduceNeg, decide_true, decide_false, Cl.own.injEq, D.tup.injEq, List.mem_cons, List.not_mem_nil, or_false, forall_eq_or_imp, forall_eq, Option.some.injEq, hi, hn]
  refine ⟨hd, ?_⟩
  cases d with
  | tup xs =>
    obtain ⟨h1, h2⟩ := hx xs rfl
    simp only [st_for, st_nil, st_expr, st_asg, st_asgl, st_unp, st_par, st_app, st_seti, st_ret, st_retn, st_ife, st_brk, st_cnt, st_rmal, st_tr, wRet, e_var, e_int, e_bl, e_non, e_str, e_fnv, e_gint, e_bin, e_neg, e_not, e_cmp, e_chn, e_isn, e_ntn, e_and, e_or, e_ite, e_tup, e_lst, e_call, e_cio, e_clv, e_blt, e_isi, e_ix, e_slc, e_rev, e_lrng, e_lc, e_met, wA, wP, wAnd, wOr, wT, wTA, wTO, kpN_sow, kpN_seq, kpN_rng, kpN_zip, kpN_enm, i_rng, i_seq, i_zip, i_enm, wCs, wHnd, pk, at_, put, putAll, putCs, wTgt, rng_1, rng_2, zip_tt, zip_ll, enm_t, enm_l, cellOf, frE, frF, frB, isOwn, isOwnL, Op.rd, Cl.datum, List.getElem?_cons_zero, List.getElem?_cons_succ, List.getElem?_nil, Option.getD_some, Option.getD_none, List.set_cons_zero, List.set_cons_succ, ne_eq, reduceCtorEq, not_false_eq_true, not_true_eq_false, true_and, and_true, if_true, if_false, ite_true, ite_false, Bool.false_eq_true, Bool.true_eq_false, Bool.true_and, Bool.and_true, Bool.false_and, Bool.and_false, Bool.not_true, Bool.not_false, false_implies, true_implies, forall_const, implies_true, bin_add, bin_sub, bin_mul, bin_fdiv, bin_mod, bin_adds, bin_addt, bin_addl, bin_mull, bin_mult, cmp_lt, cmp_le, cmp_gt, cmp_ge, cmp_eqi, cmp_nei, cmp_eqb, cmp_eqs, tru_bl, tru_int, tru_non, tru_tup, tru_lst, tru_frz, ix_tup, len_tup, tpl_tup, lsl_tup, slc_tup, seq_tup, ix_lst, len_lst, tpl_lst, lsl_lst, slc_lst, seq_lst, ix_frz, len_frz, tpl_frz, lsl_frz, slc_frz, seq_frz, len_str, blt_abs, blt_int, blt_intb, blt_max, blt_min, blt_str, blt_all, blt_any, blt_sum, opt_0, opt_1, rng_1, rng_2, atI_0, atI_1, atI_2, atI_3, atI_4, ixN_20, ixN_21, ty_bl_int, ty_bl_bool, ty_bl_str, ty_bl_tuple, ty_bl_list, ht_bl, nn_bl, mu_bl, ty_int_int, ty_int_bool, ty_int_str, ty_int_tuple, ty_int_list, ht_int, nn_int, mu_int, ty_str_int, ty_str_bool, ty_str_str, ty_str_tuple, ty_str_list, ht_str, nn_str, mu_str, ty_tup_int, ty_tup_bool, ty_tup_str, ty_tup_tuple, ty_tup_list, ht_tup, nn_tup, mu_tup, ty_lst_int, ty_lst_bool, ty_lst_str, ty_lst_tuple, ty_lst_list, ht_lst, nn_lst, mu_lst, ty_frz_int, ty_frz_bool, ty_frz_str, ty_frz_tuple, ty_frz_list, ht_frz, nn_frz, mu_frz, ty_non_int, ty_non_bool, ty_non_str, ty_non_tuple, ty_non_list, ht_non, nn_non, mu_non, List.map_cons, List.map_nil, exists_eq_left', decide_eq_true_eq, exists_eq_left, List.length_cons, List.length_nil, Nat.reduceAdd, Int.reduceEq, Int.reduceLT, Int.reduceLE, Int.reduceNeg, decide_true, decide_false, Cl.own.injEq, D.tup.injEq, List.mem_cons, List.not_mem_nil, or_false, forall_eq_or_imp, forall_eq, Option.some.injEq, hi, hn]
    refine lcS_map (fun x => .bl (isI x)) (by show 1 < 2; decide) h1 (fun x hx k hk => ?_) ?_
    · simp only [st_for, st_nil, st_expr, st_asg, st_asgl, st_unp, st_par, st_app, st_seti, st_ret, st_retn, st_ife, st_brk, st_cnt, st_rmal, st_tr, wRet, e_var, e_int, e_bl, e_non, e_str, e_fnv, e_gint, e_bin, e_neg, e_not, e_cmp, e_chn, e_isn, e_ntn, e_and, e_or, e_ite, e_tup, e_lst, e_call, e_cio, e_clv, e_blt, e_isi, e_ix, e_slc, e_rev, e_lrng, e_lc, e_met, wA, wP, wAnd, wOr, wT, wTA, wTO, kpN_sow, kpN_seq, kpN_rng, kpN_zip, kpN_enm, i_rng, i_seq, i_zip, i_enm, wCs, wHnd, pk, at_, put, putAll, putCs, wTgt, rng_1, rng_2, zip_tt, zip_ll, enm_t, enm_l, cellOf, frE, frF, frB, isOwn, isOwnL, Op.rd, Cl.datum, List.getElem?_cons_zero, List.getElem?_cons_succ, List.getElem?_nil, Option.getD_some, Option.getD_none, List.set_cons_zero, List.set_cons_succ, ne_eq, reduceCtorEq, not_false_eq_true, not_true_eq_false, true_and, and_true, if_true, if_false, ite_true, ite_false, Bool.false_eq_true, Bool.true_eq_false, Bool.true_and, Bool.and_true, Bool.false_and, Bool.and_false, Bool.not_true, Bool.not_false, false_implies, true_implies, forall_const, implies_true, bin_add, bin_sub, bin_mul, bin_fdiv, bin_mod, bin_adds, bin_addt, bin_addl, bin_mull, bin_mult, cmp_lt, cmp_le, cmp_gt, cmp_ge, cmp_eqi, cmp_nei, cmp_eqb, cmp_eqs, tru_bl, tru_int, tru_non, tru_tup, tru_lst, tru_frz, ix_tup, len_tup, tpl_tup, lsl_tup, slc_tup, seq_tup, ix_lst, len_lst, tpl_lst, lsl_lst, slc_lst, seq_lst, ix_frz, len_frz, tpl_frz, lsl_frz, slc_frz, seq_frz, len_str, blt_abs, blt_int, blt_intb, blt_max, blt_min, blt_str, blt_all, blt_any, blt_sum, opt_0, opt_1, rng_1, rng_2, atI_0, atI_1, atI_2, atI_3, atI_4, ixN_20, ixN_21, ty_bl_int, ty_bl_bool, ty_bl_str, ty_bl_tuple, ty_bl_list, ht_bl, nn_bl, mu_bl, ty_int_int, ty_int_bool, ty_int_str, ty_int_tuple, ty_int_list, ht_int, nn_int, mu_int, ty_str_int, ty_str_bool, ty_str_str, ty_str_tuple, ty_str_list, ht_str, nn_str, mu_str, ty_tup_int, ty_tup_bool, ty_tup_str, ty_tup_tuple, ty_tup_list, ht_tup, nn_tup, mu_tup, ty_lst_int, ty_lst_bool, ty_lst_str, ty_lst_tuple, ty_lst_list, ht_lst, nn_lst, mu_lst, ty_frz_int, ty_frz_bool, ty_frz_str, ty_frz_tuple, ty_frz_list, ht_frz, nn_frz, mu_frz, ty_non_int, ty_non_bool, ty_non_str, ty_non_tuple, ty_non_list, ht_non, nn_non, mu_non, List.map_cons, List.map_nil, exists_eq_left', decide_eq_true_eq, exists_eq_left, List.length_cons, List.length_nil, Nat.reduceAdd, Int.reduceEq, Int.reduceLT, Int.reduceLE, Int.reduceNeg, decide_true, decide_false, Cl.own.injEq, D.tup.injEq, List.mem_cons, List.not_mem_nil, or_false, forall_eq_or_imp, forall_eq, Option.some.injEq, hi, hn]
      exact ⟨x, rfl, h2 x hx, hk⟩
    · simp only [st_for, st_nil, st_expr, st_asg, st_asgl, st_unp, st_par, st_app, st_seti, st_ret, st_retn, st_ife, st_brk, st_cnt, st_rmal, st_tr, wRet, e_var, e_int, e_bl, e_non, e_str, e_fnv, e_gint, e_bin, e_neg, e_not, e_cmp, e_chn, e_isn, e_ntn, e_and, e_or, e_ite, e_tup, e_lst, e_call, e_cio, e_clv, e_blt, e_isi, e_ix, e_slc, e_rev, e_lrng, e_lc, e_met, wA, wP, wAnd, wOr, wT, wTA, wTO, kpN_sow, kpN_seq, kpN_rng, kpN_zip, kpN_enm, i_rng, i_seq, i_zip, i_enm, wCs, wHnd, pk, at_, put, putAll, putCs, wTgt, rng_1, rng_2, zip_tt, zip_ll, enm_t, enm_l, cellOf, frE, frF, frB, isOwn, isOwnL, Op.rd, Cl.datum, List.getElem?_cons_zero, List.getElem?_cons_succ, List.getElem?_nil, Option.getD_some, Option.getD_none, List.set_cons_zero, List.set_cons_succ, ne_eq, reduceCtorEq, not_false_eq_true, not_true_eq_false, true_and, and_true, if_true, if_false, ite_true, ite_false, Bool.false_eq_true, Bool.true_eq_false, Bool.true_and, Bool.and_true, Bool.false_and, Bool.and_false, Bool.not_true, Bool.not_false, false_implies, true_implies, forall_const, implies_true, bin_add, bin_sub, bin_mul, bin_fdiv, bin_mod, bin_adds, bin_addt, bin_addl, bin_mull, bin_mult, cmp_lt, cmp_le, cmp_gt, cmp_ge, cmp_eqi, cmp_nei, cmp_eqb, cmp_eqs, tru_bl, tru_int, tru_non, tru_tup, tru_lst, tru_frz, ix_tup, len_tup, tpl_tup, lsl_tup, slc_tup, seq_tup, ix_lst, len_lst, tpl_lst, lsl_lst, slc_lst, seq_lst, ix_frz, len_frz, tpl_frz, lsl_frz, slc_frz, seq_frz, len_str, blt_abs, blt_int, blt_intb, blt_max, blt_min, blt_str, blt_all, blt_any, blt_sum, opt_0, opt_1, rng_1, rng_2, atI_0, atI_1, atI_2, atI_3, atI_4, ixN_20, ixN_21, ty_bl_int, ty_bl_bool, ty_bl_str, ty_bl_tuple, ty_bl_list, ht_bl, nn_bl, mu_bl, ty_int_int, ty_int_bool, ty_int_str, ty_int_tuple, ty_int_list, ht_int, nn_int, mu_int, ty_str_int, ty_str_bool, ty_str_str, ty_str_tuple, ty_str_list, ht_str, nn_str, mu_str, ty_tup_int, ty_tup_bool, ty_tup_str, ty_tup_tuple, ty_tup_list, ht_tup, nn_tup, mu_tup, ty_lst_int, ty_lst_bool, ty_lst_str, ty_lst_tuple, ty_lst_list, ht_lst, nn_lst, mu_lst, ty_frz_int, ty_frz_bool, ty_frz_str, ty_frz_tuple, ty_frz_list, ht_frz, nn_frz, mu_frz, ty_non_int, ty_non_bool, ty_non_str, ty_non_tuple, ty_non_list, ht_non, nn_non, mu_non, List.map_cons, List.map_nil, exists_eq_left', decide_eq_true_eq, exists_eq_left, List.length_cons, List.length_nil, Nat.reduceAdd, Int.reduceEq, Int.reduceLT, Int.reduceLE, Int.reduceNeg, decide_true, decide_false, Cl.own.injEq, D.tup.injEq, List.mem_cons, List.not_mem_nil, or_false, forall_eq_or_imp, forall_eq, Option.some.injEq, hi]
      refine ⟨_, bls_map xs, ?_⟩
      rw [all_map]
      exact hp
  | _ => simpa [tyIs, isRow] using hp
/-! ### is_word(value) -/
def B_isword (n : Nat) : S := .seq (.ife (.or (.cons (.not (.tst (.call n (.cons (.var 0) .nil)))) (.cons (.tst (.cmp .gt (.blt .len (.cons (.var 0) .nil)) (.int 200))) (.cons (.not (.tst (.blt .all (.cons (.lc [1] false (.seq (.var 0)) .nil (.cmp .ge (.var 1) (.int 0))) .nil)))) .nil)))) (.seq (.ret (.bl false)) .nil) (.nil))
  (.seq (.ret (.or (.cons (.cmp .eq (.blt .len (.cons (.var 0) .nil)) (.int 0)) (.cons (.cmp .gt (.ix (.var 0) (.int 0)) (.int 0)) .nil)))) .nil)
def wordL (ns : List Int) : Bool := decide (ns.length ≤ 200) && ns.all (fun n => decide (0 ≤ n)) && (match ns with
  | [] => true
  | n :: _ => decide (0 < n))
def isWord (d : D) : Bool := match d with
  | .tup xs => (match intsD xs with
    | some ns => wordL ns
    | none => false)
  | _ => false
def isword : Spec := fun ds P _ => ∃ d, ds = [d] ∧ rowOk d ∧ P (.bl (isWord d)) .non
theorem ints_all : ∀ {xs : List D}, xs.all isI = true → ∃ ns : List Int, xs = ns.map D.int ∧ intsD xs = some ns
  | [], _ => ⟨[], rfl, rfl⟩
  | x :: xs, h => by
    simp only [List.all_cons, Bool.and_eq_true] at h
    obtain ⟨ns, h1, h2⟩ := ints_all h.2
    cases x with
    | int i => exact ⟨i :: ns, by rw [h1]; rfl, by show (intsD xs).map (i :: ·) = _; rw [h2]; rfl⟩
    | _ => simp [isI] at h
theorem ints_map : ∀ ns : List Int, intsD (ns.map D.int) = some ns
  | [] => rfl
  | n :: ns => by
    show (intsD (ns.map D.int)).map (n :: ·) = _
    rw [ints_map ns]
    rfl
theorem ints_not : ∀ {xs : List D}, xs.all isI = false → intsD xs = none
  | x :: xs, h => by
    simp only [List.all_cons, Bool.and_eq_false_iff] at h
    cases x with
    | int i =>
      have := ints_not (h.resolve_left (by simp [isI]))
      show (intsD xs).map (i :: ·) = none
      rw [this]
      rfl
    | _ => rfl
theorem W_isword {n : Nat} (hi : G.iop = none) (hn : G.sp n = isrow) (h : isword ds P Ex) : ds.length = 1 ∧ wS G (B_isword n) (vals ds (2 - ds.length)) (poV P Ex) := by
  obtain ⟨d, rfl, hx, hp⟩ := h
  refine ⟨rfl, ?_⟩
  show wS _ (B_isword n) [.val d, .emp] _
  unfold B_isword
  simp only [st_for, st_nil, st_ret, st_retn, st_brk, st_cnt, st_rmal, wRet, e_var, e_int, e_bl, e_non, e_str, e_fnv, e_gint, e_bin, e_neg, e_not, e_cmp, e_chn, e_isn, e_ntn, e_and, e_or, e_ite, e_tup, e_lst, e_call, e_cio, e_clv, e_blt, e_isi, e_ix, e_slc, e_rev, e_lrng, e_lc, e_met, wA, wP, wAnd, wOr, wT, wTA, wTO, kpN_sow, kpN_seq, kpN_rng, kpN_zip, kpN_enm, i_rng, i_seq, i_zip, i_enm, wCs, wHnd, pk, at_, put, putAll, putCs, wTgt, rng_1, rng_2, zip_tt, zip_ll, enm_t, enm_l, cellOf, frE, frF, frB, isOwn, isOwnL, Op.rd, Cl.datum, List.getElem?_cons_zero, List.getElem?_cons_succ, List.getElem?_nil, Option.getD_some, Option.getD_none, List.set_cons_zero, List.set_cons_succ, ne_eq, reduceCtorEq, not_false_eq_true, not_true_eq_false, true_and, and_true, if_true, if_false, ite_true, ite_false, Bool.false_eq_true, Bool.true_eq_false, Bool.true_and, Bool.and_true, Bool.false_and, Bool.and_false, Bool.not_true, Bool.not_false, false_implies, true_implies, forall_const, implies_true, bin_add, bin_sub, bin_mul, bin_fdiv, bin_mod, bin_adds, bin_addt, bin_addl, bin_mull, bin_mult, cmp_lt, cmp_le, cmp_gt, cmp_ge, cmp_eqi, cmp_nei, cmp_eqb, cmp_eqs, tru_bl, tru_int, tru_non, tru_tup, tru_lst, tru_frz, ix_tup, len_tup, tpl_tup, lsl_tup, slc_tup, seq_tup, ix_lst, len_lst, tpl_lst, lsl_lst, slc_lst, seq_lst, ix_frz, len_frz, tpl_frz, lsl_frz, slc_frz, seq_frz, len_str, blt_abs, blt_int, blt_intb, blt_max, blt_min, blt_str, blt_all, blt_any, blt_sum, opt_0, opt_1, rng_1, rng_2, atI_0, atI_1, atI_2, atI_3, atI_4, ixN_20, ixN_21, ty_bl_int, ty_bl_bool, ty_bl_str, ty_bl_tuple, ty_bl_list, ht_bl, nn_bl, mu_bl, ty_int_int, ty_int_bool, ty_int_str, ty_int_tuple, ty_int_list, ht_int, nn_int, mu_int, ty_str_int, ty_str_bool, ty_str_str, ty_str_tuple, ty_str_list, ht_str, nn_str, mu_str, ty_tup_int, ty_tup_bool, ty_tup_str, ty_tup_tuple, ty_tup_list, ht_tup, nn_tup, mu_tup, ty_lst_int, ty_lst_bool, ty_lst_str, ty_lst_tuple, ty_lst_list, ht_lst, nn_lst, mu_lst, ty_frz_int, ty_frz_bool, ty_frz_str, ty_frz_tuple, ty_frz_list, ht_frz, nn_frz, mu_frz, ty_non_int, ty_non_bool, ty_non_str, ty_non_tuple, ty_non_list, ht_non, nn_non, mu_non, List.map_cons, List.map_nil, exists_eq_left', decide_eq_true_eq, exists_eq_left, List.length_cons, List.length_nil, Nat.reduceAdd, Int.reduceEq, Int.reduceLT, Int.reduceLE, Int.reduceNeg, decide_true, decide_false, Cl.own.injEq, D.tup.injEq, List.mem_cons, List.not_mem_nil, or_false, forall_eq_or_imp, forall_eq, Option.some.injEq, sn_expr, sn_asg, sn_asgl, sn_unp, sn_par, sn_app, sn_seti, sn_ife, sn_tr, hi, hn]
  refine ⟨d, rfl, hx, ?_⟩
  simp only [st_for, st_nil, st_ret, st_retn, st_brk, st_cnt, st_rmal, wRet, e_var, e_int, e_bl, e_non, e_str, e_fnv, e_gint, e_bin, e_neg, e_not, e_cmp, e_chn, e_isn, e_ntn, e_and, e_or, e_ite, e_tup, e_lst, e_call, e_cio, e_clv, e_blt, e_isi, e_ix, e_slc, e_rev, e_lrng, e_lc, e_met, wA, wP, wAnd, wOr, wT, wTA, wTO, kpN_sow, kpN_seq, kpN_rng, kpN_zip, kpN_enm, i_rng, i_seq, i_zip, i_enm, wCs, wHnd, pk, at_, put, putAll, putCs, wTgt, rng_1, rng_2, zip_tt, zip_ll, enm_t, enm_l, cellOf, frE, frF, frB, isOwn, isOwnL, Op.rd, Cl.datum, List.getElem?_cons_zero, List.getElem?_cons_succ, List.getElem?_nil, Option.getD_some, Option.getD_none, List.set_cons_zero, List.set_cons_succ, ne_eq, reduceCtorEq, not_false_eq_true, not_true_eq_false, true_and, and_true, if_true, if_false, ite_true, ite_false, Bool.false_eq_true, Bool.true_eq_false, Bool.true_and, Bool.and_true, Bool.false_and, Bool.and_false, Bool.not_true, Bool.not_false, false_implies, true_implies, forall_const, implies_true, bin_add, bin_sub, bin_mul, bin_fdiv, bin_mod, bin_adds, bin_addt, bin_addl, bin_mull, bin_mult, cmp_lt, cmp_le, cmp_gt, cmp_ge, cmp_eqi, cmp_nei, cmp_eqb, cmp_eqs, tru_bl, tru_int, tru_non, tru_tup, tru_lst, tru_frz, ix_tup, len_tup, tpl_tup, lsl_tup, slc_tup, seq_tup, ix_lst, len_lst, tpl_lst, lsl_lst, slc_lst, seq_lst, ix_frz, len_frz, tpl_frz, lsl_frz, slc_frz, seq_frz, len_str, blt_abs, blt_int, blt_intb, blt_max, blt_min, blt_str, blt_all, blt_any, blt_sum, opt_0, opt_1, rng_1, rng_2, atI_0, atI_1, atI_2, atI_3, atI_4, ixN_20, ixN_21, ty_bl_int, ty_bl_bool, ty_bl_str, ty_bl_tuple, ty_bl_list, ht_bl, nn_bl, mu_bl, ty_int_int, ty_int_bool, ty_int_str, ty_int_tuple, ty_int_list, ht_int, nn_int, mu_int, ty_str_int, ty_str_bool, ty_str_str, ty_str_tuple, ty_str_list, ht_str, nn_str, mu_str, ty_tup_int, ty_tup_bool, ty_tup_str, ty_tup_tuple, ty_tup_list, ht_tup, nn_tup, mu_tup, ty_lst_int, ty_lst_bool, ty_lst_str, ty_lst_tuple, ty_lst_list, ht_lst, nn_lst, mu_lst, ty_frz_int, ty_frz_bool, ty_frz_str, ty_frz_tuple, ty_frz_list, ht_frz, nn_frz, mu_frz, ty_non_int, ty_non_bool, ty_non_str, ty_non_tuple, ty_non_list, ht_non, nn_non, mu_non, List.map_cons, List.map_nil, exists_eq_left', decide_eq_true_eq, exists_eq_left, List.length_cons, List.length_nil, Nat.reduceAdd, Int.reduceEq, Int.reduceLT, Int.reduceLE, Int.reduceNeg, decide_true, decide_false, Cl.own.injEq, D.tup.injEq, List.mem_cons, List.not_mem_nil, or_false, forall_eq_or_imp, forall_eq, Option.some.injEq, sn_expr, sn_asg, sn_asgl, sn_unp, sn_par, sn_app, sn_seti, sn_ife, sn_tr, hi, hn]
  cases hr : isRow d with
  | false =>
    have : isWord d = false := by
      cases d with
      | tup xs =>
        show (match intsD xs with | some ns => wordL ns | none => false) = false
        rw [ints_not hr]
      | _ => rfl
    rw [this] at hp
    simpa using hp
  | true =>
    cases d with
    | tup xs =>
      obtain ⟨ns, rfl, hns⟩ := ints_all (xs := xs) hr
      have hw : isWord (.tup (ns.map D.int)) = wordL ns := by
        show (match intsD (ns.map D.int) with | some ns => wordL ns | none => false) = _
        rw [hns]
      rw [hw] at hp
      simp only [st_for, st_nil, st_ret, st_retn, st_brk, st_cnt, st_rmal, wRet, e_var, e_int, e_bl, e_non, e_str, e_fnv, e_gint, e_bin, e_neg, e_not, e_cmp, e_chn, e_isn, e_ntn, e_and, e_or, e_ite, e_tup, e_lst, e_call, e_cio, e_clv, e_blt, e_isi, e_ix, e_slc, e_rev, e_lrng, e_lc, e_met, wA, wP, wAnd, wOr, wT, wTA, wTO, kpN_sow, kpN_seq, kpN_rng, kpN_zip, kpN_enm, i_rng, i_seq, i_zip, i_enm, wCs, wHnd, pk, at_, put, putAll, putCs, wTgt, rng_1, rng_2, zip_tt, zip_ll, enm_t, enm_l, cellOf, frE, frF, frB, isOwn, isOwnL, Op.rd, Cl.datum, List.getElem?_cons_zero, List.getElem?_cons_succ, List.getElem?_nil, Option.getD_some, Option.getD_none, List.set_cons_zero, List.set_cons_succ, ne_eq, reduceCtorEq, not_false_eq_true, not_true_eq_false, true_and, and_true, if_true, if_false, ite_true, ite_false, Bool.false_eq_true, Bool.true_eq_false, Bool.true_and, Bool.and_true, Bool.false_and, Bool.and_false, Bool.not_true, Bool.not_false, false_implies, true_implies, forall_const, implies_true, bin_add, bin_sub, bin_mul, bin_fdiv, bin_mod, bin_adds, bin_addt, bin_addl, bin_mull, bin_mult, cmp_lt, cmp_le, cmp_gt, cmp_ge, cmp_eqi, cmp_nei, cmp_eqb, cmp_eqs, tru_bl, tru_int, tru_non, tru_tup, tru_lst, tru_frz, ix_tup, len_tup, tpl_tup, lsl_tup, slc_tup, seq_tup, ix_lst, len_lst, tpl_lst, lsl_lst, slc_lst, seq_lst, ix_frz, len_frz, tpl_frz, lsl_frz, slc_frz, seq_frz, len_str, blt_abs, blt_int, blt_intb, blt_max, blt_min, blt_str, blt_all, blt_any, blt_sum, opt_0, opt_1, rng_1, rng_2, atI_0, atI_1, atI_2, atI_3, atI_4, ixN_20, ixN_21, ty_bl_int, ty_bl_bool, ty_bl_str, ty_bl_tuple, ty_bl_list, ht_bl, nn_bl, mu_bl, ty_int_int, ty_int_bool, ty_int_str, ty_int_tuple, ty_int_list, ht_int, nn_int, mu_int, ty_str_int, ty_str_bool, ty_str_str, ty_str_tuple, ty_str_list, ht_str, nn_str, mu_str, ty_tup_int, ty_tup_bool, ty_tup_str, ty_tup_tuple, ty_tup_list, ht_tup, nn_tup, mu_tup, ty_lst_int, ty_lst_bool, ty_lst_str, ty_lst_tuple, ty_lst_list, ht_lst, nn_lst, mu_lst, ty_frz_int, ty_frz_bool, ty_frz_str, ty_frz_tuple, ty_frz_list, ht_frz, nn_frz, mu_frz, ty_non_int, ty_non_bool, ty_non_str, ty_non_tuple, ty_non_list, ht_non, nn_non, mu_non, List.map_cons, List.map_nil, exists_eq_left', decide_eq_true_eq, exists_eq_left, List.length_cons, List.length_nil, Nat.reduceAdd, Int.reduceEq, Int.reduceLT, Int.reduceLE, Int.reduceNeg, decide_true, decide_false, Cl.own.injEq, D.tup.injEq, List.mem_cons, List.not_mem_nil, or_false, forall_eq_or_imp, forall_eq, Option.some.injEq, sn_expr, sn_asg, sn_asgl, sn_unp, sn_par, sn_app, sn_seti, sn_ife, sn_tr, hi, hn]
      rw [List.length_map]
      by_cases h200 : (200 : Int) < (ns.length : Nat)
      · have : wordL ns = false := by
          unfold wordL
          rw [decide_eq_false (by omega)]
          rfl
        rw [this] at hp
        simpa [h200] using hp
      · rw [if_neg h200]
        have hl : ns.length ≤ 200 := by omega
        refine lcS_map (fun x => .bl (match x with | .int i => decide (0 ≤ i) | _ => false)) (by show 1 < 2; decide) (by rw [List.length_map]; unfold sizeLine; omega) (fun x hx k hk => ?_) ?_
        · obtain ⟨i, _, rfl⟩ := List.mem_map.mp hx
          simp only [st_for, st_nil, st_expr, st_asg, st_asgl, st_unp, st_par, st_app, st_seti, st_ret, st_retn, st_ife, st_brk, st_cnt, st_rmal, st_tr, wRet, e_var, e_int, e_bl, e_non, e_str, e_fnv, e_gint, e_bin, e_neg, e_not, e_cmp, e_chn, e_isn, e_ntn, e_and, e_or, e_ite, e_tup, e_lst, e_call, e_cio, e_clv, e_blt, e_isi, e_ix, e_slc, e_rev, e_lrng, e_lc, e_met, wA, wP, wAnd, wOr, wT, wTA, wTO, kpN_sow, kpN_seq, kpN_rng, kpN_zip, kpN_enm, i_rng, i_seq, i_zip, i_enm, wCs, wHnd, pk, at_, put, putAll, putCs, wTgt, rng_1, rng_2, zip_tt, zip_ll, enm_t, enm_l, cellOf, frE, frF, frB, isOwn, isOwnL, Op.rd, Cl.datum, List.getElem?_cons_zero, List.getElem?_cons_succ, List.getElem?_nil, Option.getD_some, Option.getD_none, List.set_cons_zero, List.set_cons_succ, ne_eq, reduceCtorEq, not_false_eq_true, not_true_eq_false, true_and, and_true, if_true, if_false, ite_true, ite_false, Bool.false_eq_true, Bool.true_eq_false, Bool.true_and, Bool.and_true, Bool.false_and, Bool.and_false, Bool.not_true, Bool.not_false, false_implies, true_implies, forall_const, implies_true, bin_add, bin_sub, bin_mul, bin_fdiv, bin_mod, bin_adds, bin_addt, bin_addl, bin_mull, bin_mult, cmp_lt, cmp_le, cmp_gt, cmp_ge, cmp_eqi, cmp_nei, cmp_eqb, cmp_eqs, tru_bl, tru_int, tru_non, tru_tup, tru_lst, tru_frz, ix_tup, len_tup, tpl_tup, lsl_tup, slc_tup, seq_tup, ix_lst, len_lst, tpl_lst, lsl_lst, slc_lst, seq_lst, ix_frz, len_frz, tpl_frz, lsl_frz, slc_frz, seq_frz, len_str, blt_abs, blt_int, blt_intb, blt_max, blt_min, blt_str, blt_all, blt_any, blt_sum, opt_0, opt_1, rng_1, rng_2, atI_0, atI_1, atI_2, atI_3, atI_4, ixN_20, ixN_21, ty_bl_int, ty_bl_bool, ty_bl_str, ty_bl_tuple, ty_bl_list, ht_bl, nn_bl, mu_bl, ty_int_int, ty_int_bool, ty_int_str, ty_int_tuple, ty_int_list, ht_int, nn_int, mu_int, ty_str_int, ty_str_bool, ty_str_str, ty_str_tuple, ty_str_list, ht_str, nn_str, mu_str, ty_tup_int, ty_tup_bool, ty_tup_str, ty_tup_tuple, ty_tup_list, ht_tup, nn_tup, mu_tup, ty_lst_int, ty_lst_bool, ty_lst_str, ty_lst_tuple, ty_lst_list, ht_lst, nn_lst, mu_lst, ty_frz_int, ty_frz_bool, ty_frz_str, ty_frz_tuple, ty_frz_list, ht_frz, nn_frz, mu_frz, ty_non_int, ty_non_bool, ty_non_str, ty_non_tuple, ty_non_list, ht_non, nn_non, mu_non, List.map_cons, List.map_nil, exists_eq_left', decide_eq_true_eq, exists_eq_left, List.length_cons, List.length_nil, Nat.reduceAdd, Int.reduceEq, Int.reduceLT, Int.reduceLE, Int.reduceNeg, decide_true, decide_false, Cl.own.injEq, D.tup.injEq, List.mem_cons, List.not_mem_nil, or_false, forall_eq_or_imp, forall_eq, Option.some.injEq, hi]
          exact hk
        · simp only [st_for, st_nil, st_ret, st_retn, st_brk, st_cnt, st_rmal, wRet, e_var, e_int, e_bl, e_non, e_str, e_fnv, e_gint, e_bin, e_neg, e_not, e_cmp, e_chn, e_isn, e_ntn, e_and, e_or, e_ite, e_tup, e_lst, e_call, e_cio, e_clv, e_blt, e_isi, e_ix, e_slc, e_rev, e_lrng, e_lc, e_met, wA, wP, wAnd, wOr, wT, wTA, wTO, kpN_sow, kpN_seq, kpN_rng, kpN_zip, kpN_enm, i_rng, i_seq, i_zip, i_enm, wCs, wHnd, pk, at_, put, putAll, putCs, wTgt, rng_1, rng_2, zip_tt, zip_ll, enm_t, enm_l, cellOf, frE, frF, frB, isOwn, isOwnL, Op.rd, Cl.datum, List.getElem?_cons_zero, List.getElem?_cons_succ, List.getElem?_nil, Option.getD_some, Option.getD_none, List.set_cons_zero, List.set_cons_succ, ne_eq, reduceCtorEq, not_false_eq_true, not_true_eq_false, true_and, and_true, if_true, if_false, ite_true, ite_false, Bool.false_eq_true, Bool.true_eq_false, Bool.true_and, Bool.and_true, Bool.false_and, Bool.and_false, Bool.not_true, Bool.not_false, false_implies, true_implies, forall_const, implies_true, bin_add, bin_sub, bin_mul, bin_fdiv, bin_mod, bin_adds, bin_addt, bin_addl, bin_mull, bin_mult, cmp_lt, cmp_le, cmp_gt, cmp_ge, cmp_eqi, cmp_nei, cmp_eqb, cmp_eqs, tru_bl, tru_int, tru_non, tru_tup, tru_lst, tru_frz, ix_tup, len_tup, tpl_tup, lsl_tup, slc_tup, seq_tup, ix_lst, len_lst, tpl_lst, lsl_lst, slc_lst, seq_lst, ix_frz, len_frz, tpl_frz, lsl_frz, slc_frz, seq_frz, len_str, blt_abs, blt_int, blt_intb, blt_max, blt_min, blt_str, blt_all, blt_any, blt_sum, opt_0, opt_1, rng_1, rng_2, atI_0, atI_1, atI_2, atI_3, atI_4, ixN_20, ixN_21, ty_bl_int, ty_bl_bool, ty_bl_str, ty_bl_tuple, ty_bl_list, ht_bl, nn_bl, mu_bl, ty_int_int, ty_int_bool, ty_int_str, ty_int_tuple, ty_int_list, ht_int, nn_int, mu_int, ty_str_int, ty_str_bool, ty_str_str, ty_str_tuple, ty_str_list, ht_str, nn_str, mu_str, ty_tup_int, ty_tup_bool, ty_tup_str, ty_tup_tuple, ty_tup_list, ht_tup, nn_tup, mu_tup, ty_lst_int, ty_lst_bool, ty_lst_str, ty_lst_tuple, ty_lst_list, ht_lst, nn_lst, mu_lst, ty_frz_int, ty_frz_bool, ty_frz_str, ty_frz_tuple, ty_frz_list, ht_frz, nn_frz, mu_frz, ty_non_int, ty_non_bool, ty_non_str, ty_non_tuple, ty_non_list, ht_non, nn_non, mu_non, List.map_cons, List.map_nil, exists_eq_left', decide_eq_true_eq, exists_eq_left, List.length_cons, List.length_nil, Nat.reduceAdd, Int.reduceEq, Int.reduceLT, Int.reduceLE, Int.reduceNeg, decide_true, decide_false, Cl.own.injEq, D.tup.injEq, List.mem_cons, List.not_mem_nil, or_false, forall_eq_or_imp, forall_eq, Option.some.injEq, sn_expr, sn_asg, sn_asgl, sn_unp, sn_par, sn_app, sn_seti, sn_ife, sn_tr, hi]
          refine ⟨_, bls_map _, ?_⟩
          rw [all_map, List.all_map]
          have e1 : ns.all ((fun x => match x with | D.int i => decide (0 ≤ i) | _ => false) ∘ D.int) = ns.all fun n => decide (0 ≤ n) := rfl
          rw [e1]
          cases ha : ns.all fun n => decide (0 ≤ n) with
          | false =>
            have : wordL ns = false := by
              unfold wordL
              rw [ha, Bool.and_false, Bool.false_and]
            rw [this] at hp
            simpa using hp
          | true =>
            have hw2 : wordL ns = (match ns with | [] => true | n :: _ => decide (0 < n)) := by
              unfold wordL
              rw [ha, decide_eq_true hl]
              rfl
            rw [hw2] at hp
            simp only [Bool.not_true, Bool.false_eq_true, if_false]
            rw [wN_eq]
            simp only [st_for, st_nil, st_expr, st_asg, st_asgl, st_unp, st_par, st_app, st_seti, st_ret, st_retn, st_ife, st_brk, st_cnt, st_rmal, st_tr, wRet, e_var, e_int, e_bl, e_non, e_str, e_fnv, e_gint, e_bin, e_neg, e_not, e_cmp, e_chn, e_isn, e_ntn, e_and, e_or, e_ite, e_tup, e_lst, e_call, e_cio, e_clv, e_blt, e_isi, e_ix, e_slc, e_rev, e_lrng, e_lc, e_met, wA, wP, wAnd, wOr, wT, wTA, wTO, kpN_sow, kpN_seq, kpN_rng, kpN_zip, kpN_enm, i_rng, i_seq, i_zip, i_enm, wCs, wHnd, pk, at_, put, putAll, putCs, wTgt, rng_1, rng_2, zip_tt, zip_ll, enm_t, enm_l, cellOf, frE, frF, frB, isOwn, isOwnL, Op.rd, Cl.datum, List.getElem?_cons_zero, List.getElem?_cons_succ, List.getElem?_nil, Option.getD_some, Option.getD_none, List.set_cons_zero, List.set_cons_succ, ne_eq, reduceCtorEq, not_false_eq_true, not_true_eq_false, true_and, and_true, if_true, if_false, ite_true, ite_false, Bool.false_eq_true, Bool.true_eq_false, Bool.true_and, Bool.and_true, Bool.false_and, Bool.and_false, Bool.not_true, Bool.not_false, false_implies, true_implies, forall_const, implies_true, bin_add, bin_sub, bin_mul, bin_fdiv, bin_mod, bin_adds, bin_addt, bin_addl, bin_mull, bin_mult, cmp_lt, cmp_le, cmp_gt, cmp_ge, cmp_eqi, cmp_nei, cmp_eqb, cmp_eqs, tru_bl, tru_int, tru_non, tru_tup, tru_lst, tru_frz, ix_tup, len_tup, tpl_tup, lsl_tup, slc_tup, seq_tup, ix_lst, len_lst, tpl_lst, lsl_lst, slc_lst, seq_lst, ix_frz, len_frz, tpl_frz, lsl_frz, slc_frz, seq_frz, len_str, blt_abs, blt_int, blt_intb, blt_max, blt_min, blt_str, blt_all, blt_any, blt_sum, opt_0, opt_1, rng_1, rng_2, atI_0, atI_1, atI_2, atI_3, atI_4, ixN_20, ixN_21, ty_bl_int, ty_bl_bool, ty_bl_str, ty_bl_tuple, ty_bl_list, ht_bl, nn_bl, mu_bl, ty_int_int, ty_int_bool, ty_int_str, ty_int_tuple, ty_int_list, ht_int, nn_int, mu_int, ty_str_int, ty_str_bool, ty_str_str, ty_str_tuple, ty_str_list, ht_str, nn_str, mu_str, ty_tup_int, ty_tup_bool, ty_tup_str, ty_tup_tuple, ty_tup_list, ht_tup, nn_tup, mu_tup, ty_lst_int, ty_lst_bool, ty_lst_str, ty_lst_tuple, ty_lst_list, ht_lst, nn_lst, mu_lst, ty_frz_int, ty_frz_bool, ty_frz_str, ty_frz_tuple, ty_frz_list, ht_frz, nn_frz, mu_frz, ty_non_int, ty_non_bool, ty_non_str, ty_non_tuple, ty_non_list, ht_non, nn_non, mu_non, List.map_cons, List.map_nil, exists_eq_left', decide_eq_true_eq, exists_eq_left, List.length_cons, List.length_nil, Nat.reduceAdd, Int.reduceEq, Int.reduceLT, Int.reduceLE, Int.reduceNeg, decide_true, decide_false, Cl.own.injEq, D.tup.injEq, List.mem_cons, List.not_mem_nil, or_false, forall_eq_or_imp, forall_eq, Option.some.injEq, hi]
            cases ns with
            | nil => simpa using hp
            | cons m ms =>
              simp only [List.map_cons, List.length_cons]
              rw [if_neg (by omega)]
              refine ⟨_, atI_0, ?_⟩
              simp only [st_for, st_nil, st_expr, st_asg, st_asgl, st_unp, st_par, st_app, st_seti, st_ret, st_retn, st_ife, st_brk, st_cnt, st_rmal, st_tr, wRet, e_var, e_int, e_bl, e_non, e_str, e_fnv, e_gint, e_bin, e_neg, e_not, e_cmp, e_chn, e_isn, e_ntn, e_and, e_or, e_ite, e_tup, e_lst, e_call, e_cio, e_clv, e_blt, e_isi, e_ix, e_slc, e_rev, e_lrng, e_lc, e_met, wA, wP, wAnd, wOr, wT, wTA, wTO, kpN_sow, kpN_seq, kpN_rng, kpN_zip, kpN_enm, i_rng, i_seq, i_zip, i_enm, wCs, wHnd, pk, at_, put, putAll, putCs, wTgt, rng_1, rng_2, zip_tt, zip_ll, enm_t, enm_l, cellOf, frE, frF, frB, isOwn, isOwnL, Op.rd, Cl.datum, List.getElem?_cons_zero, List.getElem?_cons_succ, List.getElem?_nil, Option.getD_some, Option.getD_none, List.set_cons_zero, List.set_cons_succ, ne_eq, reduceCtorEq, not_false_eq_true, not_true_eq_false, true_and, and_true, if_true, if_false, ite_true, ite_false, Bool.false_eq_true, Bool.true_eq_false, Bool.true_and, Bool.and_true, Bool.false_and, Bool.and_false, Bool.not_true, Bool.not_false, false_implies, true_implies, forall_const, implies_true, bin_add, bin_sub, bin_mul, bin_fdiv, bin_mod, bin_adds, bin_addt, bin_addl, bin_mull, bin_mult, cmp_lt, cmp_le, cmp_gt, cmp_ge, cmp_eqi, cmp_nei, cmp_eqb, cmp_eqs, tru_bl, tru_int, tru_non, tru_tup, tru_lst, tru_frz, ix_tup, len_tup, tpl_tup, lsl_tup, slc_tup, seq_tup, ix_lst, len_lst, tpl_lst, lsl_lst, slc_lst, seq_lst, ix_frz, len_frz, tpl_frz, lsl_frz, slc_frz, seq_frz, len_str, blt_abs, blt_int, blt_intb, blt_max, blt_min, blt_str, blt_all, blt_any, blt_sum, opt_0, opt_1, rng_1, rng_2, atI_0, atI_1, atI_2, atI_3, atI_4, ixN_20, ixN_21, ty_bl_int, ty_bl_bool, ty_bl_str, ty_bl_tuple, ty_bl_list, ht_bl, nn_bl, mu_bl, ty_int_int, ty_int_bool, ty_int_str, ty_int_tuple, ty_int_list, ht_int, nn_int, mu_int, ty_str_int, ty_str_bool, ty_str_str, ty_str_tuple, ty_str_list, ht_str, nn_str, mu_str, ty_tup_int, ty_tup_bool, ty_tup_str, ty_tup_tuple, ty_tup_list, ht_tup, nn_tup, mu_tup, ty_lst_int, ty_lst_bool, ty_lst_str, ty_lst_tuple, ty_lst_list, ht_lst, nn_lst, mu_lst, ty_frz_int, ty_frz_bool, ty_frz_str, ty_frz_tuple, ty_frz_list, ht_frz, nn_frz, mu_frz, ty_non_int, ty_non_bool, ty_non_str, ty_non_tuple, ty_non_list, ht_non, nn_non, mu_non, List.map_cons, List.map_nil, exists_eq_left', decide_eq_true_eq, exists_eq_left, List.length_cons, List.length_nil, Nat.reduceAdd, Int.reduceEq, Int.reduceLT, Int.reduceLE, Int.reduceNeg, decide_true, decide_false, Cl.own.injEq, D.tup.injEq, List.mem_cons, List.not_mem_nil, or_false, forall_eq_or_imp, forall_eq, Option.some.injEq, hi]
              exact hp
    | _ => simp [isRow] at hr
/-! ### _law_says(value, due) -/
def B_says : S := .seq (.ret (.and (.cons (.isi (.var 0) .bool) (.cons (.cmp .eq (.var 0) (.var 1)) .nil)))) .nil
def saysD (d : D) (b : Bool) : Bool := match d with
  | .bl c => c == b
  | _ => false
def says : Spec := fun ds P _ => ∃ (d : D) (b : Bool), ds = [d, .bl b] ∧ hasTy d = true ∧ P (.bl (saysD d b)) .non
theorem W_says (h : says ds P Ex) : ds.length = 2 ∧ wS G B_says (vals ds (2 - ds.length)) (poV P Ex) := by
  obtain ⟨d, b, rfl, hd, hp⟩ := h
  refine ⟨rfl, ?_⟩
  show wS _ B_says [.val d, .val (.bl b)] _
  unfold B_says
  simp only [st_for, st_nil, st_expr, st_asg, st_asgl, st_unp, st_par, st_app, st_seti, st_ret, st_retn, st_ife, st_brk, st_cnt, st_rmal, st_tr, wRet, e_var, e_int, e_bl, e_non, e_str, e_fnv, e_gint, e_bin, e_neg, e_not, e_cmp, e_chn, e_isn, e_ntn, e_and, e_or, e_ite, e_tup, e_lst, e_call, e_cio, e_clv, e_blt, e_isi, e_ix, e_slc, e_rev, e_lrng, e_lc, e_met, wA, wP, wAnd, wOr, wT, wTA, wTO, kpN_sow, kpN_seq, kpN_rng, kpN_zip, kpN_enm, i_rng, i_seq, i_zip, i_enm, wCs, wHnd, pk, at_, put, putAll, putCs, wTgt, rng_1, rng_2, zip_tt, zip_ll, enm_t, enm_l, cellOf, frE, frF, frB, isOwn, isOwnL, Op.rd, Cl.datum, List.getElem?_cons_zero, List.getElem?_cons_succ, List.getElem?_nil, Option.getD_some, Option.getD_none, List.set_cons_zero, List.set_cons_succ, ne_eq, reduceCtorEq, not_false_eq_true, not_true_eq_false, true_and, and_true, if_true, if_false, ite_true, ite_false, Bool.false_eq_true, Bool.true_eq_false, Bool.true_and, Bool.and_true, Bool.false_and, Bool.and_false, Bool.not_true, Bool.not_false, false_implies, true_implies, forall_const, implies_true, bin_add, bin_sub, bin_mul, bin_fdiv, bin_mod, bin_adds, bin_addt, bin_addl, bin_mull, bin_mult, cmp_lt, cmp_le, cmp_gt, cmp_ge, cmp_eqi, cmp_nei, cmp_eqb, cmp_eqs, tru_bl, tru_int, tru_non, tru_tup, tru_lst, tru_frz, ix_tup, len_tup, tpl_tup, lsl_tup, slc_tup, seq_tup, ix_lst, len_lst, tpl_lst, lsl_lst, slc_lst, seq_lst, ix_frz, len_frz, tpl_frz, lsl_frz, slc_frz, seq_frz, len_str, blt_abs, blt_int, blt_intb, blt_max, blt_min, blt_str, blt_all, blt_any, blt_sum, opt_0, opt_1, rng_1, rng_2, atI_0, atI_1, atI_2, atI_3, atI_4, ixN_20, ixN_21, ty_bl_int, ty_bl_bool, ty_bl_str, ty_bl_tuple, ty_bl_list, ht_bl, nn_bl, mu_bl, ty_int_int, ty_int_bool, ty_int_str, ty_int_tuple, ty_int_list, ht_int, nn_int, mu_int, ty_str_int, ty_str_bool, ty_str_str, ty_str_tuple, ty_str_list, ht_str, nn_str, mu_str, ty_tup_int, ty_tup_bool, ty_tup_str, ty_tup_tuple, ty_tup_list, ht_tup, nn_tup, mu_tup, ty_lst_int, ty_lst_bool, ty_lst_str, ty_lst_tuple, ty_lst_list, ht_lst, nn_lst, mu_lst, ty_frz_int, ty_frz_bool, ty_frz_str, ty_frz_tuple, ty_frz_list, ht_frz, nn_frz, mu_frz, ty_non_int, ty_non_bool, ty_non_str, ty_non_tuple, ty_non_list, ht_non, nn_non, mu_non, List.map_cons, List.map_nil, exists_eq_left', decide_eq_true_eq, exists_eq_left, List.length_cons, List.length_nil, Nat.reduceAdd, Int.reduceEq, Int.reduceLT, Int.reduceLE, Int.reduceNeg, decide_true, decide_false, Cl.own.injEq, D.tup.injEq, List.mem_cons, List.not_mem_nil, or_false, forall_eq_or_imp, forall_eq, Option.some.injEq]
  refine ⟨hd, ?_⟩
  cases d with
  | bl c =>
    simp only [st_for, st_nil, st_expr, st_asg, st_asgl, st_unp, st_par, st_app, st_seti, st_ret, st_retn, st_ife, st_brk, st_cnt, st_rmal, st_tr, wRet, e_var, e_int, e_bl, e_non, e_str, e_fnv, e_gint, e_bin, e_neg, e_not, e_cmp, e_chn, e_isn, e_ntn, e_and, e_or, e_ite, e_tup, e_lst, e_call, e_cio, e_clv, e_blt, e_isi, e_ix, e_slc, e_rev, e_lrng, e_lc, e_met, wA, wP, wAnd, wOr, wT, wTA, wTO, kpN_sow, kpN_seq, kpN_rng, kpN_zip, kpN_enm, i_rng, i_seq, i_zip, i_enm, wCs, wHnd, pk, at_, put, putAll, putCs, wTgt, rng_1, rng_2, zip_tt, zip_ll, enm_t, enm_l, cellOf, frE, frF, frB, isOwn, isOwnL, Op.rd, Cl.datum, List.getElem?_cons_zero, List.getElem?_cons_succ, List.getElem?_nil, Option.getD_some, Option.getD_none, List.set_cons_zero, List.set_cons_succ, ne_eq, reduceCtorEq, not_false_eq_true, not_true_eq_false, true_and, and_true, if_true, if_false, ite_true, ite_false, Bool.false_eq_true, Bool.true_eq_false, Bool.true_and, Bool.and_true, Bool.false_and, Bool.and_false, Bool.not_true, Bool.not_false, false_implies, true_implies, forall_const, implies_true, bin_add, bin_sub, bin_mul, bin_fdiv, bin_mod, bin_adds, bin_addt, bin_addl, bin_mull, bin_mult, cmp_lt, cmp_le, cmp_gt, cmp_ge, cmp_eqi, cmp_nei, cmp_eqb, cmp_eqs, tru_bl, tru_int, tru_non, tru_tup, tru_lst, tru_frz, ix_tup, len_tup, tpl_tup, lsl_tup, slc_tup, seq_tup, ix_lst, len_lst, tpl_lst, lsl_lst, slc_lst, seq_lst, ix_frz, len_frz, tpl_frz, lsl_frz, slc_frz, seq_frz, len_str, blt_abs, blt_int, blt_intb, blt_max, blt_min, blt_str, blt_all, blt_any, blt_sum, opt_0, opt_1, rng_1, rng_2, atI_0, atI_1, atI_2, atI_3, atI_4, ixN_20, ixN_21, ty_bl_int, ty_bl_bool, ty_bl_str, ty_bl_tuple, ty_bl_list, ht_bl, nn_bl, mu_bl, ty_int_int, ty_int_bool, ty_int_str, ty_int_tuple, ty_int_list, ht_int, nn_int, mu_int, ty_str_int, ty_str_bool, ty_str_str, ty_str_tuple, ty_str_list, ht_str, nn_str, mu_str, ty_tup_int, ty_tup_bool, ty_tup_str, ty_tup_tuple, ty_tup_list, ht_tup, nn_tup, mu_tup, ty_lst_int, ty_lst_bool, ty_lst_str, ty_lst_tuple, ty_lst_list, ht_lst, nn_lst, mu_lst, ty_frz_int, ty_frz_bool, ty_frz_str, ty_frz_tuple, ty_frz_list, ht_frz, nn_frz, mu_frz, ty_non_int, ty_non_bool, ty_non_str, ty_non_tuple, ty_non_list, ht_non, nn_non, mu_non, List.map_cons, List.map_nil, exists_eq_left', decide_eq_true_eq, exists_eq_left, List.length_cons, List.length_nil, Nat.reduceAdd, Int.reduceEq, Int.reduceLT, Int.reduceLE, Int.reduceNeg, decide_true, decide_false, Cl.own.injEq, D.tup.injEq, List.mem_cons, List.not_mem_nil, or_false, forall_eq_or_imp, forall_eq, Option.some.injEq]
    exact hp
  | _ => simpa [tyIs, saysD] using hp
/-! ### _law_same(one, two): c: itself one step less deep, w: _law_is_whole -/
def B_same (c w : Nat) : S := .seq (.ife (.tst (.isi (.var 1) .bool)) (.seq (.ret (.and (.cons (.isi (.var 0) .bool) (.cons (.cmp .eq (.var 0) (.var 1)) .nil)))) .nil) (.nil))
  (.seq (.ife (.tst (.isi (.var 1) .tuple)) (.seq (.ret (.and (.cons (.isi (.var 0) .tuple) (.cons (.cmp .eq (.blt .len (.cons (.var 0) .nil)) (.blt .len (.cons (.var 1) .nil))) (.cons (.blt .all (.cons (.lc [2] false (.rng (.cons (.blt .len (.cons (.var 1) .nil)) .nil)) .nil (.call c (.cons (.ix (.var 0) (.var 2)) (.cons (.ix (.var 1) (.var 2)) .nil)))) .nil)) .nil))))) .nil) (.nil))
  (.seq (.ife (.tst (.isi (.var 1) .list)) (.seq (.ret (.and (.cons (.isi (.var 0) .tuple) (.cons (.call c (.cons (.var 0) (.cons (.blt .tuple (.cons (.var 1) .nil)) .nil))) .nil)))) .nil) (.nil))
  (.seq (.ife (.tst (.isi (.var 1) .str)) (.seq (.ret (.and (.cons (.isi (.var 0) .str) (.cons (.cmp .eq (.var 0) (.var 1)) .nil)))) .nil) (.nil))
  (.seq (.ife (.tst (.isn (.var 1))) (.seq (.ret (.isn (.var 0))) .nil) (.nil))
  (.seq (.ret (.and (.cons (.call w (.cons (.var 0) .nil)) (.cons (.cmp .eq (.var 0) (.var 1)) .nil)))) .nil)))))
/-- the second is what is due: how deep it is -/
inductive Due : Nat → D → Prop
  | bl (n : Nat) (b : Bool) : Due n (.bl b)
  | int (n : Nat) (i : Int) : Due n (.int i)
  | str (n : Nat) (x : Str) : Due n (.str x)
  | non (n : Nat) : Due n .non
  | tup {n : Nat} {xs : List D} : xs.length ≤ sizeLine → (∀ x ∈ xs, Due n x) → Due (n + 1) (.tup xs)
  | lst {n : Nat} {xs : List D} : Due n (.tup xs) → Due (n + 1) (.lst xs)
/-- the first may be any data: types are asked of what stands where a due thing stands -/
inductive Seen : D → Prop
  | bl (b : Bool) : Seen (.bl b)
  | int (i : Int) : Seen (.int i)
  | str (x : Str) : Seen (.str x)
  | non : Seen .non
  | tup {xs : List D} : (∀ x ∈ xs, Seen x) → Seen (.tup xs)
  | lst (xs : List D) : Seen (.lst xs)
theorem Seen.ty {d : D} (h : Seen d) : hasTy d = true := by cases h <;> rfl
mutual
def sameD : D → D → Bool
  | .bl a, .bl b => a == b
  | .int a, .int b => a == b
  | .str a, .str b => a == b
  | .non, .non => true
  | .tup xs, .tup ys => sameDs xs ys
  | .tup xs, .lst ys => sameDs xs ys
  | _, _ => false
def sameDs : List D → List D → Bool
  | [], [] => true
  | x :: xs, y :: ys => sameD x y && sameDs xs ys
  | _, _ => false
end
def same (n : Nat) : Spec := fun ds P _ => ∃ d e, ds = [d, e] ∧ Seen d ∧ Due n e ∧ P (.bl (sameD d e)) .non
theorem sameDs_len : ∀ {xs ys : List D}, sameDs xs ys = true → xs.length = ys.length
  | [], [], _ => rfl
  | x :: xs, y :: ys, h => by
    simp only [sameDs, Bool.and_eq_true] at h
    exact congrArg (· + 1) (sameDs_len h.2)
  | [], _ :: _, h => by simp [sameDs] at h
  | _ :: _, [], h => by simp [sameDs] at h
theorem sameDs_all : ∀ {xs ys : List D}, xs.length = ys.length → ((List.range ys.length).all fun i => match xs[i]?, ys[i]? with | some x, some y => sameD x y | _, _ => false) = sameDs xs ys
  | [], [], _ => rfl
  | x :: xs, y :: ys, h => by
    have ih := sameDs_all (xs := xs) (ys := ys) (Nat.succ.inj h)
    rw [List.length_cons, List.range_succ_eq_map, List.all_cons, List.all_map]
    show (sameD x y && _) = (sameD x y && sameDs xs ys)
    rw [← ih]
    rfl
  | [], _ :: _, h => by cases h
  | _ :: _, [], h => by cases h
theorem rng0_mem {n : Nat} {d : D} (h : d ∈ rngD 0 (n : Int)) : ∃ i : Nat, i < n ∧ d = .int (i : Nat) := by
  unfold rngD at h
  obtain ⟨i, h1, h2⟩ := List.mem_map.mp h
  rw [List.mem_range] at h1
  exact ⟨i, by omega, by rw [← h2]; simp⟩
theorem W_same {c w m : Nat} (hi : G.iop = none) (hw : G.sp w = isint) (hc : ∀ k, m = k + 1 → G.sp c = same k) (h : same m ds P Ex) : ds.length = 2 ∧ wS G (B_same c w) (vals ds (3 - ds.length)) (poV P Ex) := by
  obtain ⟨d, e, rfl, hd, he, hp⟩ := h
  refine ⟨rfl, ?_⟩
  show wS _ (B_same c w) [.val d, .val e, .emp] _
  unfold B_same
  have ht := hd.ty
  cases he with
  | bl n b =>
    simp only [st_for, st_nil, st_expr, st_asg, st_asgl, st_unp, st_par, st_app, st_seti, st_ret, st_retn, st_ife, st_brk, st_cnt, st_rmal, st_tr, wRet, e_var, e_int, e_bl, e_non, e_str, e_fnv, e_gint, e_bin, e_neg, e_not, e_cmp, e_chn, e_isn, e_ntn, e_and, e_or, e_ite, e_tup, e_lst, e_call, e_cio, e_clv, e_blt, e_isi, e_ix, e_slc, e_rev, e_lrng, e_lc, e_met, wA, wP, wAnd, wOr, wT, wTA, wTO, kpN_sow, kpN_seq, kpN_rng, kpN_zip, kpN_enm, i_rng, i_seq, i_zip, i_enm, wCs, wHnd, pk, at_, put, putAll, putCs, wTgt, rng_1, rng_2, zip_tt, zip_ll, enm_t, enm_l, cellOf, frE, frF, frB, isOwn, isOwnL, Op.rd, Cl.datum, List.getElem?_cons_zero, List.getElem?_cons_succ, List.getElem?_nil, Option.getD_some, Option.getD_none, List.set_cons_zero, List.set_cons_succ, ne_eq, reduceCtorEq, not_false_eq_true, not_true_eq_false, true_and, and_true, if_true, if_false, ite_true, ite_false, Bool.false_eq_true, Bool.true_eq_false, Bool.true_and, Bool.and_true, Bool.false_and, Bool.and_false, Bool.not_true, Bool.not_false, false_implies, true_implies, forall_const, implies_true, bin_add, bin_sub, bin_mul, bin_fdiv, bin_mod, bin_adds, bin_addt, bin_addl, bin_mull, bin_mult, cmp_lt, cmp_le, cmp_gt, cmp_ge, cmp_eqi, cmp_nei, cmp_eqb, cmp_eqs, tru_bl, tru_int, tru_non, tru_tup, tru_lst, tru_frz, ix_tup, len_tup, tpl_tup, lsl_tup, slc_tup, seq_tup, ix_lst, len_lst, tpl_lst, lsl_lst, slc_lst, seq_lst, ix_frz, len_frz, tpl_frz, lsl_frz, slc_frz, seq_frz, len_str, blt_abs, blt_int, blt_intb, blt_max, blt_min, blt_str, blt_all, blt_any, blt_sum, opt_0, opt_1, rng_1, rng_2, atI_0, atI_1, atI_2, atI_3, atI_4, ixN_20, ixN_21, ty_bl_int, ty_bl_bool, ty_bl_str, ty_bl_tuple, ty_bl_list, ht_bl, nn_bl, mu_bl, ty_int_int, ty_int_bool, ty_int_str, ty_int_tuple, ty_int_list, ht_int, nn_int, mu_int, ty_str_int, ty_str_bool, ty_str_str, ty_str_tuple, ty_str_list, ht_str, nn_str, mu_str, ty_tup_int, ty_tup_bool, ty_tup_str, ty_tup_tuple, ty_tup_list, ht_tup, nn_tup, mu_tup, ty_lst_int, ty_lst_bool, ty_lst_str, ty_lst_tuple, ty_lst_list, ht_lst, nn_lst, mu_lst, ty_frz_int, ty_frz_bool, ty_frz_str, ty_frz_tuple, ty_frz_list, ht_frz, nn_frz, mu_frz, ty_non_int, ty_non_bool, ty_non_str, ty_non_tuple, ty_non_list, ht_non, nn_non, mu_non, List.map_cons, List.map_nil, exists_eq_left', decide_eq_true_eq, exists_eq_left, List.length_cons, List.length_nil, Nat.reduceAdd, Int.reduceEq, Int.reduceLT, Int.reduceLE, Int.reduceNeg, decide_true, decide_false, Cl.own.injEq, D.tup.injEq, List.mem_cons, List.not_mem_nil, or_false, forall_eq_or_imp, forall_eq, Option.some.injEq, hi, hw]
    refine ⟨ht, ?_⟩
    cases hd <;> first | (simp only [st_for, st_nil, st_expr, st_asg, st_asgl, st_unp, st_par, st_app, st_seti, st_ret, st_retn, st_ife, st_brk, st_cnt, st_rmal, st_tr, wRet, e_var, e_int, e_bl, e_non, e_str, e_fnv, e_gint, e_bin, e_neg, e_not, e_cmp, e_chn, e_isn, e_ntn, e_and, e_or, e_ite, e_tup, e_lst, e_call, e_cio, e_clv, e_blt, e_isi, e_ix, e_slc, e_rev, e_lrng, e_lc, e_met, wA, wP, wAnd, wOr, wT, wTA, wTO, kpN_sow, kpN_seq, kpN_rng, kpN_zip, kpN_enm, i_rng, i_seq, i_zip, i_enm, wCs, wHnd, pk, at_, put, putAll, putCs, wTgt, rng_1, rng_2, zip_tt, zip_ll, enm_t, enm_l, cellOf, frE, frF, frB, isOwn, isOwnL, Op.rd, Cl.datum, List.getElem?_cons_zero, List.getElem?_cons_succ, List.getElem?_nil, Option.getD_some, Option.getD_none, List.set_cons_zero, List.set_cons_succ, ne_eq, reduceCtorEq, not_false_eq_true, not_true_eq_false, true_and, and_true, if_true, if_false, ite_true, ite_false, Bool.false_eq_true, Bool.true_eq_false, Bool.true_and, Bool.and_true, Bool.false_and, Bool.and_false, Bool.not_true, Bool.not_false, false_implies, true_implies, forall_const, implies_true, bin_add, bin_sub, bin_mul, bin_fdiv, bin_mod, bin_adds, bin_addt, bin_addl, bin_mull, bin_mult, cmp_lt, cmp_le, cmp_gt, cmp_ge, cmp_eqi, cmp_nei, cmp_eqb, cmp_eqs, tru_bl, tru_int, tru_non, tru_tup, tru_lst, tru_frz, ix_tup, len_tup, tpl_tup, lsl_tup, slc_tup, seq_tup, ix_lst, len_lst, tpl_lst, lsl_lst, slc_lst, seq_lst, ix_frz, len_frz, tpl_frz, lsl_frz, slc_frz, seq_frz, len_str, blt_abs, blt_int, blt_intb, blt_max, blt_min, blt_str, blt_all, blt_any, blt_sum, opt_0, opt_1, rng_1, rng_2, atI_0, atI_1, atI_2, atI_3, atI_4, ixN_20, ixN_21, ty_bl_int, ty_bl_bool, ty_bl_str, ty_bl_tuple, ty_bl_list, ht_bl, nn_bl, mu_bl, ty_int_int, ty_int_bool, ty_int_str, ty_int_tuple, ty_int_list, ht_int, nn_int, mu_int, ty_str_int, ty_str_bool, ty_str_str, ty_str_tuple, ty_str_list, ht_str, nn_str, mu_str, ty_tup_int, ty_tup_bool, ty_tup_str, ty_tup_tuple, ty_tup_list, ht_tup, nn_tup, mu_tup, ty_lst_int, ty_lst_bool, ty_lst_str, ty_lst_tuple, ty_lst_list, ht_lst, nn_lst, mu_lst, ty_frz_int, ty_frz_bool, ty_frz_str, ty_frz_tuple, ty_frz_list, ht_frz, nn_frz, mu_frz, ty_non_int, ty_non_bool, ty_non_str, ty_non_tuple, ty_non_list, ht_non, nn_non, mu_non, List.map_cons, List.map_nil, exists_eq_left', decide_eq_true_eq, exists_eq_left, List.length_cons, List.length_nil, Nat.reduceAdd, Int.reduceEq, Int.reduceLT, Int.reduceLE, Int.reduceNeg, decide_true, decide_false, Cl.own.injEq, D.tup.injEq, List.mem_cons, List.not_mem_nil, or_false, forall_eq_or_imp, forall_eq, Option.some.injEq]; exact hp) | (simpa [tyIs, sameD] using hp)
  | int n b =>
    simp only [st_for, st_nil, st_expr, st_asg, st_asgl, st_unp, st_par, st_app, st_seti, st_ret, st_retn, st_ife, st_brk, st_cnt, st_rmal, st_tr, wRet, e_var, e_int, e_bl, e_non, e_str, e_fnv, e_gint, e_bin, e_neg, e_not, e_cmp, e_chn, e_isn, e_ntn, e_and, e_or, e_ite, e_tup, e_lst, e_call, e_cio, e_clv, e_blt, e_isi, e_ix, e_slc, e_rev, e_lrng, e_lc, e_met, wA, wP, wAnd, wOr, wT, wTA, wTO, kpN_sow, kpN_seq, kpN_rng, kpN_zip, kpN_enm, i_rng, i_seq, i_zip, i_enm, wCs, wHnd, pk, at_, put, putAll, putCs, wTgt, rng_1, rng_2, zip_tt, zip_ll, enm_t, enm_l, cellOf, frE, frF, frB, isOwn, isOwnL, Op.rd, Cl.datum, List.getElem?_cons_zero, List.getElem?_cons_succ, List.getElem?_nil, Option.getD_some, Option.getD_none, List.set_cons_zero, List.set_cons_succ, ne_eq, reduceCtorEq, not_false_eq_true, not_true_eq_false, true_and, and_true, if_true, if_false, ite_true, ite_false, Bool.false_eq_true, Bool.true_eq_false, Bool.true_and, Bool.and_true, Bool.false_and, Bool.and_false, Bool.not_true, Bool.not_false, false_implies, true_implies, forall_const, implies_true, bin_add, bin_sub, bin_mul, bin_fdiv, bin_mod, bin_adds, bin_addt, bin_addl, bin_mull, bin_mult, cmp_lt, cmp_le, cmp_gt, cmp_ge, cmp_eqi, cmp_nei, cmp_eqb, cmp_eqs, tru_bl, tru_int, tru_non, tru_tup, tru_lst, tru_frz, ix_tup, len_tup, tpl_tup, lsl_tup, slc_tup, seq_tup, ix_lst, len_lst, tpl_lst, lsl_lst, slc_lst, seq_lst, ix_frz, len_frz, tpl_frz, lsl_frz, slc_frz, seq_frz, len_str, blt_abs, blt_int, blt_intb, blt_max, blt_min, blt_str, blt_all, blt_any, blt_sum, opt_0, opt_1, rng_1, rng_2, atI_0, atI_1, atI_2, atI_3, atI_4, ixN_20, ixN_21, ty_bl_int, ty_bl_bool, ty_bl_str, ty_bl_tuple, ty_bl_list, ht_bl, nn_bl, mu_bl, ty_int_int, ty_int_bool, ty_int_str, ty_int_tuple, ty_int_list, ht_int, nn_int, mu_int, ty_str_int, ty_str_bool, ty_str_str, ty_str_tuple, ty_str_list, ht_str, nn_str, mu_str, ty_tup_int, ty_tup_bool, ty_tup_str, ty_tup_tuple, ty_tup_list, ht_tup, nn_tup, mu_tup, ty_lst_int, ty_lst_bool, ty_lst_str, ty_lst_tuple, ty_lst_list, ht_lst, nn_lst, mu_lst, ty_frz_int, ty_frz_bool, ty_frz_str, ty_frz_tuple, ty_frz_list, ht_frz, nn_frz, mu_frz, ty_non_int, ty_non_bool, ty_non_str, ty_non_tuple, ty_non_list, ht_non, nn_non, mu_non, List.map_cons, List.map_nil, exists_eq_left', decide_eq_true_eq, exists_eq_left, List.length_cons, List.length_nil, Nat.reduceAdd, Int.reduceEq, Int.reduceLT, Int.reduceLE, Int.reduceNeg, decide_true, decide_false, Cl.own.injEq, D.tup.injEq, List.mem_cons, List.not_mem_nil, or_false, forall_eq_or_imp, forall_eq, Option.some.injEq, hi, hw]
    refine ⟨d, rfl, ht, ?_⟩
    cases hd with
    | int i =>
      simp only [st_for, st_nil, st_expr, st_asg, st_asgl, st_unp, st_par, st_app, st_seti, st_ret, st_retn, st_ife, st_brk, st_cnt, st_rmal, st_tr, wRet, e_var, e_int, e_bl, e_non, e_str, e_fnv, e_gint, e_bin, e_neg, e_not, e_cmp, e_chn, e_isn, e_ntn, e_and, e_or, e_ite, e_tup, e_lst, e_call, e_cio, e_clv, e_blt, e_isi, e_ix, e_slc, e_rev, e_lrng, e_lc, e_met, wA, wP, wAnd, wOr, wT, wTA, wTO, kpN_sow, kpN_seq, kpN_rng, kpN_zip, kpN_enm, i_rng, i_seq, i_zip, i_enm, wCs, wHnd, pk, at_, put, putAll, putCs, wTgt, rng_1, rng_2, zip_tt, zip_ll, enm_t, enm_l, cellOf, frE, frF, frB, isOwn, isOwnL, Op.rd, Cl.datum, List.getElem?_cons_zero, List.getElem?_cons_succ, List.getElem?_nil, Option.getD_some, Option.getD_none, List.set_cons_zero, List.set_cons_succ, ne_eq, reduceCtorEq, not_false_eq_true, not_true_eq_false, true_and, and_true, if_true, if_false, ite_true, ite_false, Bool.false_eq_true, Bool.true_eq_false, Bool.true_and, Bool.and_true, Bool.false_and, Bool.and_false, Bool.not_true, Bool.not_false, false_implies, true_implies, forall_const, implies_true, bin_add, bin_sub, bin_mul, bin_fdiv, bin_mod, bin_adds, bin_addt, bin_addl, bin_mull, bin_mult, cmp_lt, cmp_le, cmp_gt, cmp_ge, cmp_eqi, cmp_nei, cmp_eqb, cmp_eqs, tru_bl, tru_int, tru_non, tru_tup, tru_lst, tru_frz, ix_tup, len_tup, tpl_tup, lsl_tup, slc_tup, seq_tup, ix_lst, len_lst, tpl_lst, lsl_lst, slc_lst, seq_lst, ix_frz, len_frz, tpl_frz, lsl_frz, slc_frz, seq_frz, len_str, blt_abs, blt_int, blt_intb, blt_max, blt_min, blt_str, blt_all, blt_any, blt_sum, opt_0, opt_1, rng_1, rng_2, atI_0, atI_1, atI_2, atI_3, atI_4, ixN_20, ixN_21, ty_bl_int, ty_bl_bool, ty_bl_str, ty_bl_tuple, ty_bl_list, ht_bl, nn_bl, mu_bl, ty_int_int, ty_int_bool, ty_int_str, ty_int_tuple, ty_int_list, ht_int, nn_int, mu_int, ty_str_int, ty_str_bool, ty_str_str, ty_str_tuple, ty_str_list, ht_str, nn_str, mu_str, ty_tup_int, ty_tup_bool, ty_tup_str, ty_tup_tuple, ty_tup_list, ht_tup, nn_tup, mu_tup, ty_lst_int, ty_lst_bool, ty_lst_str, ty_lst_tuple, ty_lst_list, ht_lst, nn_lst, mu_lst, ty_frz_int, ty_frz_bool, ty_frz_str, ty_frz_tuple, ty_frz_list, ht_frz, nn_frz, mu_frz, ty_non_int, ty_non_bool, ty_non_str, ty_non_tuple, ty_non_list, ht_non, nn_non, mu_non, List.map_cons, List.map_nil, exists_eq_left', decide_eq_true_eq, exists_eq_left, List.length_cons, List.length_nil, Nat.reduceAdd, Int.reduceEq, Int.reduceLT, Int.reduceLE, Int.reduceNeg, decide_true, decide_false, Cl.own.injEq, D.tup.injEq, List.mem_cons, List.not_mem_nil, or_false, forall_eq_or_imp, forall_eq, Option.some.injEq, isI]
      exact hp
    | _ => simpa [isI, sameD] using hp
  | str n b =>
    simp only [st_for, st_nil, st_expr, st_asg, st_asgl, st_unp, st_par, st_app, st_seti, st_ret, st_retn, st_ife, st_brk, st_cnt, st_rmal, st_tr, wRet, e_var, e_int, e_bl, e_non, e_str, e_fnv, e_gint, e_bin, e_neg, e_not, e_cmp, e_chn, e_isn, e_ntn, e_and, e_or, e_ite, e_tup, e_lst, e_call, e_cio, e_clv, e_blt, e_isi, e_ix, e_slc, e_rev, e_lrng, e_lc, e_met, wA, wP, wAnd, wOr, wT, wTA, wTO, kpN_sow, kpN_seq, kpN_rng, kpN_zip, kpN_enm, i_rng, i_seq, i_zip, i_enm, wCs, wHnd, pk, at_, put, putAll, putCs, wTgt, rng_1, rng_2, zip_tt, zip_ll, enm_t, enm_l, cellOf, frE, frF, frB, isOwn, isOwnL, Op.rd, Cl.datum, List.getElem?_cons_zero, List.getElem?_cons_succ, List.getElem?_nil, Option.getD_some, Option.getD_none, List.set_cons_zero, List.set_cons_succ, ne_eq, reduceCtorEq, not_false_eq_true, not_true_eq_false, true_and, and_true, if_true, if_false, ite_true, ite_false, Bool.false_eq_true, Bool.true_eq_false, Bool.true_and, Bool.and_true, Bool.false_and, Bool.and_false, Bool.not_true, Bool.not_false, false_implies, true_implies, forall_const, implies_true, bin_add, bin_sub, bin_mul, bin_fdiv, bin_mod, bin_adds, bin_addt, bin_addl, bin_mull, bin_mult, cmp_lt, cmp_le, cmp_gt, cmp_ge, cmp_eqi, cmp_nei, cmp_eqb, cmp_eqs, tru_bl, tru_int, tru_non, tru_tup, tru_lst, tru_frz, ix_tup, len_tup, tpl_tup, lsl_tup, slc_tup, seq_tup, ix_lst, len_lst, tpl_lst, lsl_lst, slc_lst, seq_lst, ix_frz, len_frz, tpl_frz, lsl_frz, slc_frz, seq_frz, len_str, blt_abs, blt_int, blt_intb, blt_max, blt_min, blt_str, blt_all, blt_any, blt_sum, opt_0, opt_1, rng_1, rng_2, atI_0, atI_1, atI_2, atI_3, atI_4, ixN_20, ixN_21, ty_bl_int, ty_bl_bool, ty_bl_str, ty_bl_tuple, ty_bl_list, ht_bl, nn_bl, mu_bl, ty_int_int, ty_int_bool, ty_int_str, ty_int_tuple, ty_int_list, ht_int, nn_int, mu_int, ty_str_int, ty_str_bool, ty_str_str, ty_str_tuple, ty_str_list, ht_str, nn_str, mu_str, ty_tup_int, ty_tup_bool, ty_tup_str, ty_tup_tuple, ty_tup_list, ht_tup, nn_tup, mu_tup, ty_lst_int, ty_lst_bool, ty_lst_str, ty_lst_tuple, ty_lst_list, ht_lst, nn_lst, mu_lst, ty_frz_int, ty_frz_bool, ty_frz_str, ty_frz_tuple, ty_frz_list, ht_frz, nn_frz, mu_frz, ty_non_int, ty_non_bool, ty_non_str, ty_non_tuple, ty_non_list, ht_non, nn_non, mu_non, List.map_cons, List.map_nil, exists_eq_left', decide_eq_true_eq, exists_eq_left, List.length_cons, List.length_nil, Nat.reduceAdd, Int.reduceEq, Int.reduceLT, Int.reduceLE, Int.reduceNeg, decide_true, decide_false, Cl.own.injEq, D.tup.injEq, List.mem_cons, List.not_mem_nil, or_false, forall_eq_or_imp, forall_eq, Option.some.injEq, hi, hw]
    refine ⟨ht, ?_⟩
    cases hd <;> first | (simp only [st_for, st_nil, st_expr, st_asg, st_asgl, st_unp, st_par, st_app, st_seti, st_ret, st_retn, st_ife, st_brk, st_cnt, st_rmal, st_tr, wRet, e_var, e_int, e_bl, e_non, e_str, e_fnv, e_gint, e_bin, e_neg, e_not, e_cmp, e_chn, e_isn, e_ntn, e_and, e_or, e_ite, e_tup, e_lst, e_call, e_cio, e_clv, e_blt, e_isi, e_ix, e_slc, e_rev, e_lrng, e_lc, e_met, wA, wP, wAnd, wOr, wT, wTA, wTO, kpN_sow, kpN_seq, kpN_rng, kpN_zip, kpN_enm, i_rng, i_seq, i_zip, i_enm, wCs, wHnd, pk, at_, put, putAll, putCs, wTgt, rng_1, rng_2, zip_tt, zip_ll, enm_t, enm_l, cellOf, frE, frF, frB, isOwn, isOwnL, Op.rd, Cl.datum, List.getElem?_cons_zero, List.getElem?_cons_succ, List.getElem?_nil, Option.getD_some, Option.getD_none, List.set_cons_zero, List.set_cons_succ, ne_eq, reduceCtorEq, not_false_eq_true, not_true_eq_false, true_and, and_true, if_true, if_false, ite_true, ite_false, Bool.false_eq_true, Bool.true_eq_false, Bool.true_and, Bool.and_true, Bool.false_and, Bool.and_false, Bool.not_true, Bool.not_false, false_implies, true_implies, forall_const, implies_true, bin_add, bin_sub, bin_mul, bin_fdiv, bin_mod, bin_adds, bin_addt, bin_addl, bin_mull, bin_mult, cmp_lt, cmp_le, cmp_gt, cmp_ge, cmp_eqi, cmp_nei, cmp_eqb, cmp_eqs, tru_bl, tru_int, tru_non, tru_tup, tru_lst, tru_frz, ix_tup, len_tup, tpl_tup, lsl_tup, slc_tup, seq_tup, ix_lst, len_lst, tpl_lst, lsl_lst, slc_lst, seq_lst, ix_frz, len_frz, tpl_frz, lsl_frz, slc_frz, seq_frz, len_str, blt_abs, blt_int, blt_intb, blt_max, blt_min, blt_str, blt_all, blt_any, blt_sum, opt_0, opt_1, rng_1, rng_2, atI_0, atI_1, atI_2, atI_3, atI_4, ixN_20, ixN_21, ty_bl_int, ty_bl_bool, ty_bl_str, ty_bl_tuple, ty_bl_list, ht_bl, nn_bl, mu_bl, ty_int_int, ty_int_bool, ty_int_str, ty_int_tuple, ty_int_list, ht_int, nn_int, mu_int, ty_str_int, ty_str_bool, ty_str_str, ty_str_tuple, ty_str_list, ht_str, nn_str, mu_str, ty_tup_int, ty_tup_bool, ty_tup_str, ty_tup_tuple, ty_tup_list, ht_tup, nn_tup, mu_tup, ty_lst_int, ty_lst_bool, ty_lst_str, ty_lst_tuple, ty_lst_list, ht_lst, nn_lst, mu_lst, ty_frz_int, ty_frz_bool, ty_frz_str, ty_frz_tuple, ty_frz_list, ht_frz, nn_frz, mu_frz, ty_non_int, ty_non_bool, ty_non_str, ty_non_tuple, ty_non_list, ht_non, nn_non, mu_non, List.map_cons, List.map_nil, exists_eq_left', decide_eq_true_eq, exists_eq_left, List.length_cons, List.length_nil, Nat.reduceAdd, Int.reduceEq, Int.reduceLT, Int.reduceLE, Int.reduceNeg, decide_true, decide_false, Cl.own.injEq, D.tup.injEq, List.mem_cons, List.not_mem_nil, or_false, forall_eq_or_imp, forall_eq, Option.some.injEq]; exact hp) | (simpa [tyIs, sameD] using hp)
  | non n =>
    simp only [st_for, st_nil, st_expr, st_asg, st_asgl, st_unp, st_par, st_app, st_seti, st_ret, st_retn, st_ife, st_brk, st_cnt, st_rmal, st_tr, wRet, e_var, e_int, e_bl, e_non, e_str, e_fnv, e_gint, e_bin, e_neg, e_not, e_cmp, e_chn, e_isn, e_ntn, e_and, e_or, e_ite, e_tup, e_lst, e_call, e_cio, e_clv, e_blt, e_isi, e_ix, e_slc, e_rev, e_lrng, e_lc, e_met, wA, wP, wAnd, wOr, wT, wTA, wTO, kpN_sow, kpN_seq, kpN_rng, kpN_zip, kpN_enm, i_rng, i_seq, i_zip, i_enm, wCs, wHnd, pk, at_, put, putAll, putCs, wTgt, rng_1, rng_2, zip_tt, zip_ll, enm_t, enm_l, cellOf, frE, frF, frB, isOwn, isOwnL, Op.rd, Cl.datum, List.getElem?_cons_zero, List.getElem?_cons_succ, List.getElem?_nil, Option.getD_some, Option.getD_none, List.set_cons_zero, List.set_cons_succ, ne_eq, reduceCtorEq, not_false_eq_true, not_true_eq_false, true_and, and_true, if_true, if_false, ite_true, ite_false, Bool.false_eq_true, Bool.true_eq_false, Bool.true_and, Bool.and_true, Bool.false_and, Bool.and_false, Bool.not_true, Bool.not_false, false_implies, true_implies, forall_const, implies_true, bin_add, bin_sub, bin_mul, bin_fdiv, bin_mod, bin_adds, bin_addt, bin_addl, bin_mull, bin_mult, cmp_lt, cmp_le, cmp_gt, cmp_ge, cmp_eqi, cmp_nei, cmp_eqb, cmp_eqs, tru_bl, tru_int, tru_non, tru_tup, tru_lst, tru_frz, ix_tup, len_tup, tpl_tup, lsl_tup, slc_tup, seq_tup, ix_lst, len_lst, tpl_lst, lsl_lst, slc_lst, seq_lst, ix_frz, len_frz, tpl_frz, lsl_frz, slc_frz, seq_frz, len_str, blt_abs, blt_int, blt_intb, blt_max, blt_min, blt_str, blt_all, blt_any, blt_sum, opt_0, opt_1, rng_1, rng_2, atI_0, atI_1, atI_2, atI_3, atI_4, ixN_20, ixN_21, ty_bl_int, ty_bl_bool, ty_bl_str, ty_bl_tuple, ty_bl_list, ht_bl, nn_bl, mu_bl, ty_int_int, ty_int_bool, ty_int_str, ty_int_tuple, ty_int_list, ht_int, nn_int, mu_int, ty_str_int, ty_str_bool, ty_str_str, ty_str_tuple, ty_str_list, ht_str, nn_str, mu_str, ty_tup_int, ty_tup_bool, ty_tup_str, ty_tup_tuple, ty_tup_list, ht_tup, nn_tup, mu_tup, ty_lst_int, ty_lst_bool, ty_lst_str, ty_lst_tuple, ty_lst_list, ht_lst, nn_lst, mu_lst, ty_frz_int, ty_frz_bool, ty_frz_str, ty_frz_tuple, ty_frz_list, ht_frz, nn_frz, mu_frz, ty_non_int, ty_non_bool, ty_non_str, ty_non_tuple, ty_non_list, ht_non, nn_non, mu_non, List.map_cons, List.map_nil, exists_eq_left', decide_eq_true_eq, exists_eq_left, List.length_cons, List.length_nil, Nat.reduceAdd, Int.reduceEq, Int.reduceLT, Int.reduceLE, Int.reduceNeg, decide_true, decide_false, Cl.own.injEq, D.tup.injEq, List.mem_cons, List.not_mem_nil, or_false, forall_eq_or_imp, forall_eq, Option.some.injEq, hi, hw]
    cases hd <;> simpa [isNonD, sameD] using hp
  | @tup k ys hl hy =>
    have hcc := hc k rfl
    simp only [st_for, st_nil, st_expr, st_asg, st_asgl, st_unp, st_par, st_app, st_seti, st_ret, st_retn, st_ife, st_brk, st_cnt, st_rmal, st_tr, wRet, e_var, e_int, e_bl, e_non, e_str, e_fnv, e_gint, e_bin, e_neg, e_not, e_cmp, e_chn, e_isn, e_ntn, e_and, e_or, e_ite, e_tup, e_lst, e_call, e_cio, e_clv, e_blt, e_isi, e_ix, e_slc, e_rev, e_lrng, e_lc, e_met, wA, wP, wAnd, wOr, wT, wTA, wTO, kpN_sow, kpN_seq, kpN_rng, kpN_zip, kpN_enm, i_rng, i_seq, i_zip, i_enm, wCs, wHnd, pk, at_, put, putAll, putCs, wTgt, rng_1, rng_2, zip_tt, zip_ll, enm_t, enm_l, cellOf, frE, frF, frB, isOwn, isOwnL, Op.rd, Cl.datum, List.getElem?_cons_zero, List.getElem?_cons_succ, List.getElem?_nil, Option.getD_some, Option.getD_none, List.set_cons_zero, List.set_cons_succ, ne_eq, reduceCtorEq, not_false_eq_true, not_true_eq_false, true_and, and_true, if_true, if_false, ite_true, ite_false, Bool.false_eq_true, Bool.true_eq_false, Bool.true_and, Bool.and_true, Bool.false_and, Bool.and_false, Bool.not_true, Bool.not_false, false_implies, true_implies, forall_const, implies_true, bin_add, bin_sub, bin_mul, bin_fdiv, bin_mod, bin_adds, bin_addt, bin_addl, bin_mull, bin_mult, cmp_lt, cmp_le, cmp_gt, cmp_ge, cmp_eqi, cmp_nei, cmp_eqb, cmp_eqs, tru_bl, tru_int, tru_non, tru_tup, tru_lst, tru_frz, ix_tup, len_tup, tpl_tup, lsl_tup, slc_tup, seq_tup, ix_lst, len_lst, tpl_lst, lsl_lst, slc_lst, seq_lst, ix_frz, len_frz, tpl_frz, lsl_frz, slc_frz, seq_frz, len_str, blt_abs, blt_int, blt_intb, blt_max, blt_min, blt_str, blt_all, blt_any, blt_sum, opt_0, opt_1, rng_1, rng_2, atI_0, atI_1, atI_2, atI_3, atI_4, ixN_20, ixN_21, ty_bl_int, ty_bl_bool, ty_bl_str, ty_bl_tuple, ty_bl_list, ht_bl, nn_bl, mu_bl, ty_int_int, ty_int_bool, ty_int_str, ty_int_tuple, ty_int_list, ht_int, nn_int, mu_int, ty_str_int, ty_str_bool, ty_str_str, ty_str_tuple, ty_str_list, ht_str, nn_str, mu_str, ty_tup_int, ty_tup_bool, ty_tup_str, ty_tup_tuple, ty_tup_list, ht_tup, nn_tup, mu_tup, ty_lst_int, ty_lst_bool, ty_lst_str, ty_lst_tuple, ty_lst_list, ht_lst, nn_lst, mu_lst, ty_frz_int, ty_frz_bool, ty_frz_str, ty_frz_tuple, ty_frz_list, ht_frz, nn_frz, mu_frz, ty_non_int, ty_non_bool, ty_non_str, ty_non_tuple, ty_non_list, ht_non, nn_non, mu_non, List.map_cons, List.map_nil, exists_eq_left', decide_eq_true_eq, exists_eq_left, List.length_cons, List.length_nil, Nat.reduceAdd, Int.reduceEq, Int.reduceLT, Int.reduceLE, Int.reduceNeg, decide_true, decide_false, Cl.own.injEq, D.tup.injEq, List.mem_cons, List.not_mem_nil, or_false, forall_eq_or_imp, forall_eq, Option.some.injEq, hi, hw, hcc]
    refine ⟨ht, ?_⟩
    cases hd with
    | @tup xs hx =>
      simp only [st_for, st_nil, st_expr, st_asg, st_asgl, st_unp, st_par, st_app, st_seti, st_ret, st_retn, st_ife, st_brk, st_cnt, st_rmal, st_tr, wRet, e_var, e_int, e_bl, e_non, e_str, e_fnv, e_gint, e_bin, e_neg, e_not, e_cmp, e_chn, e_isn, e_ntn, e_and, e_or, e_ite, e_tup, e_lst, e_call, e_cio, e_clv, e_blt, e_isi, e_ix, e_slc, e_rev, e_lrng, e_lc, e_met, wA, wP, wAnd, wOr, wT, wTA, wTO, kpN_sow, kpN_seq, kpN_rng, kpN_zip, kpN_enm, i_rng, i_seq, i_zip, i_enm, wCs, wHnd, pk, at_, put, putAll, putCs, wTgt, rng_1, rng_2, zip_tt, zip_ll, enm_t, enm_l, cellOf, frE, frF, frB, isOwn, isOwnL, Op.rd, Cl.datum, List.getElem?_cons_zero, List.getElem?_cons_succ, List.getElem?_nil, Option.getD_some, Option.getD_none, List.set_cons_zero, List.set_cons_succ, ne_eq, reduceCtorEq, not_false_eq_true, not_true_eq_false, true_and, and_true, if_true, if_false, ite_true, ite_false, Bool.false_eq_true, Bool.true_eq_false, Bool.true_and, Bool.and_true, Bool.false_and, Bool.and_false, Bool.not_true, Bool.not_false, false_implies, true_implies, forall_const, implies_true, bin_add, bin_sub, bin_mul, bin_fdiv, bin_mod, bin_adds, bin_addt, bin_addl, bin_mull, bin_mult, cmp_lt, cmp_le, cmp_gt, cmp_ge, cmp_eqi, cmp_nei, cmp_eqb, cmp_eqs, tru_bl, tru_int, tru_non, tru_tup, tru_lst, tru_frz, ix_tup, len_tup, tpl_tup, lsl_tup, slc_tup, seq_tup, ix_lst, len_lst, tpl_lst, lsl_lst, slc_lst, seq_lst, ix_frz, len_frz, tpl_frz, lsl_frz, slc_frz, seq_frz, len_str, blt_abs, blt_int, blt_intb, blt_max, blt_min, blt_str, blt_all, blt_any, blt_sum, opt_0, opt_1, rng_1, rng_2, atI_0, atI_1, atI_2, atI_3, atI_4, ixN_20, ixN_21, ty_bl_int, ty_bl_bool, ty_bl_str, ty_bl_tuple, ty_bl_list, ht_bl, nn_bl, mu_bl, ty_int_int, ty_int_bool, ty_int_str, ty_int_tuple, ty_int_list, ht_int, nn_int, mu_int, ty_str_int, ty_str_bool, ty_str_str, ty_str_tuple, ty_str_list, ht_str, nn_str, mu_str, ty_tup_int, ty_tup_bool, ty_tup_str, ty_tup_tuple, ty_tup_list, ht_tup, nn_tup, mu_tup, ty_lst_int, ty_lst_bool, ty_lst_str, ty_lst_tuple, ty_lst_list, ht_lst, nn_lst, mu_lst, ty_frz_int, ty_frz_bool, ty_frz_str, ty_frz_tuple, ty_frz_list, ht_frz, nn_frz, mu_frz, ty_non_int, ty_non_bool, ty_non_str, ty_non_tuple, ty_non_list, ht_non, nn_non, mu_non, List.map_cons, List.map_nil, exists_eq_left', decide_eq_true_eq, exists_eq_left, List.length_cons, List.length_nil, Nat.reduceAdd, Int.reduceEq, Int.reduceLT, Int.reduceLE, Int.reduceNeg, decide_true, decide_false, Cl.own.injEq, D.tup.injEq, List.mem_cons, List.not_mem_nil, or_false, forall_eq_or_imp, forall_eq, Option.some.injEq, hi, hcc]
      by_cases hlen : xs.length = ys.length
      · rw [if_pos (by omega)]
        refine ⟨⟨by omega, by omega⟩, ⟨by omega, by unfold sizeLine at hl; omega⟩, ?_⟩
        refine lcS_map (fun x => .bl (match x with | .int i => (match xs[i.toNat]?, ys[i.toNat]? with | some x, some y => sameD x y | _, _ => false) | _ => false)) (by show 2 < 3; decide) (by rw [rng_len]; omega) (fun x hx' k hk => ?_) ?_
        · obtain ⟨i, hi', rfl⟩ := rng0_mem hx'
          have hxi : xs[i]? = some xs[i] := List.getElem?_eq_getElem (by omega)
          have hyi : ys[i]? = some ys[i] := List.getElem?_eq_getElem hi'
          simp only [Int.toNat_natCast, hxi, hyi] at hk
          simp only [st_for, st_nil, st_expr, st_asg, st_asgl, st_unp, st_par, st_app, st_seti, st_ret, st_retn, st_ife, st_brk, st_cnt, st_rmal, st_tr, wRet, e_var, e_int, e_bl, e_non, e_str, e_fnv, e_gint, e_bin, e_neg, e_not, e_cmp, e_chn, e_isn, e_ntn, e_and, e_or, e_ite, e_tup, e_lst, e_call, e_cio, e_clv, e_blt, e_isi, e_ix, e_slc, e_rev, e_lrng, e_lc, e_met, wA, wP, wAnd, wOr, wT, wTA, wTO, kpN_sow, kpN_seq, kpN_rng, kpN_zip, kpN_enm, i_rng, i_seq, i_zip, i_enm, wCs, wHnd, pk, at_, put, putAll, putCs, wTgt, rng_1, rng_2, zip_tt, zip_ll, enm_t, enm_l, cellOf, frE, frF, frB, isOwn, isOwnL, Op.rd, Cl.datum, List.getElem?_cons_zero, List.getElem?_cons_succ, List.getElem?_nil, Option.getD_some, Option.getD_none, List.set_cons_zero, List.set_cons_succ, ne_eq, reduceCtorEq, not_false_eq_true, not_true_eq_false, true_and, and_true, if_true, if_false, ite_true, ite_false, Bool.false_eq_true, Bool.true_eq_false, Bool.true_and, Bool.and_true, Bool.false_and, Bool.and_false, Bool.not_true, Bool.not_false, false_implies, true_implies, forall_const, implies_true, bin_add, bin_sub, bin_mul, bin_fdiv, bin_mod, bin_adds, bin_addt, bin_addl, bin_mull, bin_mult, cmp_lt, cmp_le, cmp_gt, cmp_ge, cmp_eqi, cmp_nei, cmp_eqb, cmp_eqs, tru_bl, tru_int, tru_non, tru_tup, tru_lst, tru_frz, ix_tup, len_tup, tpl_tup, lsl_tup, slc_tup, seq_tup, ix_lst, len_lst, tpl_lst, lsl_lst, slc_lst, seq_lst, ix_frz, len_frz, tpl_frz, lsl_frz, slc_frz, seq_frz, len_str, blt_abs, blt_int, blt_intb, blt_max, blt_min, blt_str, blt_all, blt_any, blt_sum, opt_0, opt_1, rng_1, rng_2, atI_0, atI_1, atI_2, atI_3, atI_4, ixN_20, ixN_21, ty_bl_int, ty_bl_bool, ty_bl_str, ty_bl_tuple, ty_bl_list, ht_bl, nn_bl, mu_bl, ty_int_int, ty_int_bool, ty_int_str, ty_int_tuple, ty_int_list, ht_int, nn_int, mu_int, ty_str_int, ty_str_bool, ty_str_str, ty_str_tuple, ty_str_list, ht_str, nn_str, mu_str, ty_tup_int, ty_tup_bool, ty_tup_str, ty_tup_tuple, ty_tup_list, ht_tup, nn_tup, mu_tup, ty_lst_int, ty_lst_bool, ty_lst_str, ty_lst_tuple, ty_lst_list, ht_lst, nn_lst, mu_lst, ty_frz_int, ty_frz_bool, ty_frz_str, ty_frz_tuple, ty_frz_list, ht_frz, nn_frz, mu_frz, ty_non_int, ty_non_bool, ty_non_str, ty_non_tuple, ty_non_list, ht_non, nn_non, mu_non, List.map_cons, List.map_nil, exists_eq_left', decide_eq_true_eq, exists_eq_left, List.length_cons, List.length_nil, Nat.reduceAdd, Int.reduceEq, Int.reduceLT, Int.reduceLE, Int.reduceNeg, decide_true, decide_false, Cl.own.injEq, D.tup.injEq, List.mem_cons, List.not_mem_nil, or_false, forall_eq_or_imp, forall_eq, Option.some.injEq, hi, hcc]
          refine ⟨_, atI_nat hxi, _, atI_nat hyi, _, _, rfl, hx _ (List.getElem_mem _), hy _ (List.getElem_mem _), hk⟩
        · simp only [st_for, st_nil, st_expr, st_asg, st_asgl, st_unp, st_par, st_app, st_seti, st_ret, st_retn, st_ife, st_brk, st_cnt, st_rmal, st_tr, wRet, e_var, e_int, e_bl, e_non, e_str, e_fnv, e_gint, e_bin, e_neg, e_not, e_cmp, e_chn, e_isn, e_ntn, e_and, e_or, e_ite, e_tup, e_lst, e_call, e_cio, e_clv, e_blt, e_isi, e_ix, e_slc, e_rev, e_lrng, e_lc, e_met, wA, wP, wAnd, wOr, wT, wTA, wTO, kpN_sow, kpN_seq, kpN_rng, kpN_zip, kpN_enm, i_rng, i_seq, i_zip, i_enm, wCs, wHnd, pk, at_, put, putAll, putCs, wTgt, rng_1, rng_2, zip_tt, zip_ll, enm_t, enm_l, cellOf, frE, frF, frB, isOwn, isOwnL, Op.rd, Cl.datum, List.getElem?_cons_zero, List.getElem?_cons_succ, List.getElem?_nil, Option.getD_some, Option.getD_none, List.set_cons_zero, List.set_cons_succ, ne_eq, reduceCtorEq, not_false_eq_true, not_true_eq_false, true_and, and_true, if_true, if_false, ite_true, ite_false, Bool.false_eq_true, Bool.true_eq_false, Bool.true_and, Bool.and_true, Bool.false_and, Bool.and_false, Bool.not_true, Bool.not_false, false_implies, true_implies, forall_const, implies_true, bin_add, bin_sub, bin_mul, bin_fdiv, bin_mod, bin_adds, bin_addt, bin_addl, bin_mull, bin_mult, cmp_lt, cmp_le, cmp_gt, cmp_ge, cmp_eqi, cmp_nei, cmp_eqb, cmp_eqs, tru_bl, tru_int, tru_non, tru_tup, tru_lst, tru_frz, ix_tup, len_tup, tpl_tup, lsl_tup, slc_tup, seq_tup, ix_lst, len_lst, tpl_lst, lsl_lst, slc_lst, seq_lst, ix_frz, len_frz, tpl_frz, lsl_frz, slc_frz, seq_frz, len_str, blt_abs, blt_int, blt_intb, blt_max, blt_min, blt_str, blt_all, blt_any, blt_sum, opt_0, opt_1, rng_1, rng_2, atI_0, atI_1, atI_2, atI_3, atI_4, ixN_20, ixN_21, ty_bl_int, ty_bl_bool, ty_bl_str, ty_bl_tuple, ty_bl_list, ht_bl, nn_bl, mu_bl, ty_int_int, ty_int_bool, ty_int_str, ty_int_tuple, ty_int_list, ht_int, nn_int, mu_int, ty_str_int, ty_str_bool, ty_str_str, ty_str_tuple, ty_str_list, ht_str, nn_str, mu_str, ty_tup_int, ty_tup_bool, ty_tup_str, ty_tup_tuple, ty_tup_list, ht_tup, nn_tup, mu_tup, ty_lst_int, ty_lst_bool, ty_lst_str, ty_lst_tuple, ty_lst_list, ht_lst, nn_lst, mu_lst, ty_frz_int, ty_frz_bool, ty_frz_str, ty_frz_tuple, ty_frz_list, ht_frz, nn_frz, mu_frz, ty_non_int, ty_non_bool, ty_non_str, ty_non_tuple, ty_non_list, ht_non, nn_non, mu_non, List.map_cons, List.map_nil, exists_eq_left', decide_eq_true_eq, exists_eq_left, List.length_cons, List.length_nil, Nat.reduceAdd, Int.reduceEq, Int.reduceLT, Int.reduceLE, Int.reduceNeg, decide_true, decide_false, Cl.own.injEq, D.tup.injEq, List.mem_cons, List.not_mem_nil, or_false, forall_eq_or_imp, forall_eq, Option.some.injEq, hi]
          refine ⟨_, bls_map _, ?_⟩
          have : (List.map (fun x => match x with | D.int i => (match xs[i.toNat]?, ys[i.toNat]? with | some x, some y => sameD x y | _, _ => false) | _ => false) (rngD 0 (ys.length : Nat))).all id = sameDs xs ys := by
            rw [all_map, ← sameDs_all hlen]
            unfold rngD
            rw [List.all_map]
            have e0 : ((ys.length : Int) - 0).toNat = ys.length := by omega
            rw [e0]
            congr 1
            funext i
            simp
          rw [this]
          exact hp
      · rw [if_neg (by omega)]
        have : sameD (.tup xs) (.tup ys) = false := by
          cases hs : sameDs xs ys with
          | false => exact hs
          | true => exact absurd (sameDs_len hs) hlen
        rw [this] at hp
        exact hp
    | _ => simpa [tyIs, sameD] using hp
  | @lst k ys hy =>
    have hcc := hc k rfl
    simp only [st_for, st_nil, st_expr, st_asg, st_asgl, st_unp, st_par, st_app, st_seti, st_ret, st_retn, st_ife, st_brk, st_cnt, st_rmal, st_tr, wRet, e_var, e_int, e_bl, e_non, e_str, e_fnv, e_gint, e_bin, e_neg, e_not, e_cmp, e_chn, e_isn, e_ntn, e_and, e_or, e_ite, e_tup, e_lst, e_call, e_cio, e_clv, e_blt, e_isi, e_ix, e_slc, e_rev, e_lrng, e_lc, e_met, wA, wP, wAnd, wOr, wT, wTA, wTO, kpN_sow, kpN_seq, kpN_rng, kpN_zip, kpN_enm, i_rng, i_seq, i_zip, i_enm, wCs, wHnd, pk, at_, put, putAll, putCs, wTgt, rng_1, rng_2, zip_tt, zip_ll, enm_t, enm_l, cellOf, frE, frF, frB, isOwn, isOwnL, Op.rd, Cl.datum, List.getElem?_cons_zero, List.getElem?_cons_succ, List.getElem?_nil, Option.getD_some, Option.getD_none, List.set_cons_zero, List.set_cons_succ, ne_eq, reduceCtorEq, not_false_eq_true, not_true_eq_false, true_and, and_true, if_true, if_false, ite_true, ite_false, Bool.false_eq_true, Bool.true_eq_false, Bool.true_and, Bool.and_true, Bool.false_and, Bool.and_false, Bool.not_true, Bool.not_false, false_implies, true_implies, forall_const, implies_true, bin_add, bin_sub, bin_mul, bin_fdiv, bin_mod, bin_adds, bin_addt, bin_addl, bin_mull, bin_mult, cmp_lt, cmp_le, cmp_gt, cmp_ge, cmp_eqi, cmp_nei, cmp_eqb, cmp_eqs, tru_bl, tru_int, tru_non, tru_tup, tru_lst, tru_frz, ix_tup, len_tup, tpl_tup, lsl_tup, slc_tup, seq_tup, ix_lst, len_lst, tpl_lst, lsl_lst, slc_lst, seq_lst, ix_frz, len_frz, tpl_frz, lsl_frz, slc_frz, seq_frz, len_str, blt_abs, blt_int, blt_intb, blt_max, blt_min, blt_str, blt_all, blt_any, blt_sum, opt_0, opt_1, rng_1, rng_2, atI_0, atI_1, atI_2, atI_3, atI_4, ixN_20, ixN_21, ty_bl_int, ty_bl_bool, ty_bl_str, ty_bl_tuple, ty_bl_list, ht_bl, nn_bl, mu_bl, ty_int_int, ty_int_bool, ty_int_str, ty_int_tuple, ty_int_list, ht_int, nn_int, mu_int, ty_str_int, ty_str_bool, ty_str_str, ty_str_tuple, ty_str_list, ht_str, nn_str, mu_str, ty_tup_int, ty_tup_bool, ty_tup_str, ty_tup_tuple, ty_tup_list, ht_tup, nn_tup, mu_tup, ty_lst_int, ty_lst_bool, ty_lst_str, ty_lst_tuple, ty_lst_list, ht_lst, nn_lst, mu_lst, ty_frz_int, ty_frz_bool, ty_frz_str, ty_frz_tuple, ty_frz_list, ht_frz, nn_frz, mu_frz, ty_non_int, ty_non_bool, ty_non_str, ty_non_tuple, ty_non_list, ht_non, nn_non, mu_non, List.map_cons, List.map_nil, exists_eq_left', decide_eq_true_eq, exists_eq_left, List.length_cons, List.length_nil, Nat.reduceAdd, Int.reduceEq, Int.reduceLT, Int.reduceLE, Int.reduceNeg, decide_true, decide_false, Cl.own.injEq, D.tup.injEq, List.mem_cons, List.not_mem_nil, or_false, forall_eq_or_imp, forall_eq, Option.some.injEq, hi, hw, hcc]
    refine ⟨ht, ?_⟩
    cases hd with
    | @tup xs hx =>
      simp only [st_for, st_nil, st_expr, st_asg, st_asgl, st_unp, st_par, st_app, st_seti, st_ret, st_retn, st_ife, st_brk, st_cnt, st_rmal, st_tr, wRet, e_var, e_int, e_bl, e_non, e_str, e_fnv, e_gint, e_bin, e_neg, e_not, e_cmp, e_chn, e_isn, e_ntn, e_and, e_or, e_ite, e_tup, e_lst, e_call, e_cio, e_clv, e_blt, e_isi, e_ix, e_slc, e_rev, e_lrng, e_lc, e_met, wA, wP, wAnd, wOr, wT, wTA, wTO, kpN_sow, kpN_seq, kpN_rng, kpN_zip, kpN_enm, i_rng, i_seq, i_zip, i_enm, wCs, wHnd, pk, at_, put, putAll, putCs, wTgt, rng_1, rng_2, zip_tt, zip_ll, enm_t, enm_l, cellOf, frE, frF, frB, isOwn, isOwnL, Op.rd, Cl.datum, List.getElem?_cons_zero, List.getElem?_cons_succ, List.getElem?_nil, Option.getD_some, Option.getD_none, List.set_cons_zero, List.set_cons_succ, ne_eq, reduceCtorEq, not_false_eq_true, not_true_eq_false, true_and, and_true, if_true, if_false, ite_true, ite_false, Bool.false_eq_true, Bool.true_eq_false, Bool.true_and, Bool.and_true, Bool.false_and, Bool.and_false, Bool.not_true, Bool.not_false, false_implies, true_implies, forall_const, implies_true, bin_add, bin_sub, bin_mul, bin_fdiv, bin_mod, bin_adds, bin_addt, bin_addl, bin_mull, bin_mult, cmp_lt, cmp_le, cmp_gt, cmp_ge, cmp_eqi, cmp_nei, cmp_eqb, cmp_eqs, tru_bl, tru_int, tru_non, tru_tup, tru_lst, tru_frz, ix_tup, len_tup, tpl_tup, lsl_tup, slc_tup, seq_tup, ix_lst, len_lst, tpl_lst, lsl_lst, slc_lst, seq_lst, ix_frz, len_frz, tpl_frz, lsl_frz, slc_frz, seq_frz, len_str, blt_abs, blt_int, blt_intb, blt_max, blt_min, blt_str, blt_all, blt_any, blt_sum, opt_0, opt_1, rng_1, rng_2, atI_0, atI_1, atI_2, atI_3, atI_4, ixN_20, ixN_21, ty_bl_int, ty_bl_bool, ty_bl_str, ty_bl_tuple, ty_bl_list, ht_bl, nn_bl, mu_bl, ty_int_int, ty_int_bool, ty_int_str, ty_int_tuple, ty_int_list, ht_int, nn_int, mu_int, ty_str_int, ty_str_bool, ty_str_str, ty_str_tuple, ty_str_list, ht_str, nn_str, mu_str, ty_tup_int, ty_tup_bool, ty_tup_str, ty_tup_tuple, ty_tup_list, ht_tup, nn_tup, mu_tup, ty_lst_int, ty_lst_bool, ty_lst_str, ty_lst_tuple, ty_lst_list, ht_lst, nn_lst, mu_lst, ty_frz_int, ty_frz_bool, ty_frz_str, ty_frz_tuple, ty_frz_list, ht_frz, nn_frz, mu_frz, ty_non_int, ty_non_bool, ty_non_str, ty_non_tuple, ty_non_list, ht_non, nn_non, mu_non, List.map_cons, List.map_nil, exists_eq_left', decide_eq_true_eq, exists_eq_left, List.length_cons, List.length_nil, Nat.reduceAdd, Int.reduceEq, Int.reduceLT, Int.reduceLE, Int.reduceNeg, decide_true, decide_false, Cl.own.injEq, D.tup.injEq, List.mem_cons, List.not_mem_nil, or_false, forall_eq_or_imp, forall_eq, Option.some.injEq, hi, hcc]
      exact ⟨_, _, rfl, .tup hx, hy, hp⟩
    | _ => simpa [tyIs, sameD] using hp
/-! ### _law_told(act, given) -/
def B_told : S := .seq (.tr (.seq (.ife (.tst (.cmp .gt (.blt .len (.cons (.var 1) .nil)) (.int 3))) (.seq (.ret (.tup (.cons (.str "told") (.cons (.ite (.tst (.cmp .eq (.blt .len (.cons (.var 1) .nil)) (.int 4))) (.clv 0 (.cons (.ix (.var 1) (.int 0)) (.cons (.ix (.var 1) (.int 1)) (.cons (.ix (.var 1) (.int 2)) (.cons (.ix (.var 1) (.int 3)) .nil))))) (.clv 0 (.cons (.ix (.var 1) (.int 0)) (.cons (.ix (.var 1) (.int 1)) (.cons (.ix (.var 1) (.int 2)) (.cons (.ix (.var 1) (.int 3)) (.cons (.ix (.var 1) (.int 4)) .nil))))))) .nil)))) .nil) (.nil))
    (.seq (.ret (.tup (.cons (.str "told") (.cons (.ite (.tst (.cmp .eq (.blt .len (.cons (.var 1) .nil)) (.int 1))) (.clv 0 (.cons (.ix (.var 1) (.int 0)) .nil)) (.ite (.tst (.cmp .eq (.blt .len (.cons (.var 1) .nil)) (.int 2))) (.clv 0 (.cons (.ix (.var 1) (.int 0)) (.cons (.ix (.var 1) (.int 1)) .nil))) (.clv 0 (.cons (.ix (.var 1) (.int 0)) (.cons (.ix (.var 1) (.int 1)) (.cons (.ix (.var 1) (.int 2)) .nil)))))) .nil)))) .nil)) (.hnd .mal none (.tup (.cons (.str "malformed") (.cons .non .nil))) (.hnd .ref (some 2) (.tup (.cons (.str "refused") .nil)) .nil))) .nil
/-- what the clauses hand back -/
def toldX (P : D → D → Prop) (Ex : Exn → Prop) : Exn → Prop
  | .mal => P (.tup [.str "malformed", .non]) .non
  | .ref r => P (.tup [.str "refused", .str r]) .non
  | .nt i => Ex (.nt i)
/-- spv: what is said of the defs that are handed on -/
def told (spv : Nat → Spec) : Spec := fun ds P Ex => ∃ (n : Nat) (as : List D), ds = [.fn n, .tup as] ∧ 1 ≤ as.length ∧ as.length ≤ 5 ∧ spv n as (fun d _ => P (.tup [.str "told", d]) .non) (toldX P Ex)
theorem W_told {spv : Nat → Spec} (hi : G.iop = none) (hv : ∀ n ds P Ex, spv n ds P Ex → G.tb.lv n < G.k ∧ G.tb.io n = false ∧ G.sp n ds P Ex) (hm : ∀ n ds P Ex Ex', spv n ds P Ex → (∀ x, Ex x → Ex' x) → spv n ds P Ex') (h : told spv ds P Ex) :
    ds.length = 2 ∧ wS G B_told (vals ds (3 - ds.length)) (poV P Ex) := by
  obtain ⟨n, as, rfl, h1, h5, hp⟩ := h
  refine ⟨rfl, ?_⟩
  show wS _ B_told [.val (.fn n), .val (.tup as), .emp] _
  unfold B_told
  have key : ∀ X : Exn → Prop, (∀ x, toldX P Ex x → X x) → G.tb.lv n < G.k ∧ G.tb.io n = false ∧ G.sp n as (fun d _ => P (.tup [.str "told", d]) .non) X := fun X hX => hv _ _ _ _ (hm _ _ _ _ _ hp hX)
  have hx : ∀ x, toldX P Ex x → wHnd G (.hnd .mal none (.tup (.cons (.str "malformed") (.cons .non .nil))) (.hnd .ref (some 2) (.tup (.cons (.str "refused") .nil)) .nil)) x [.val (.fn n), .val (.tup as), .emp] ⟨fun env1 => wS G .nil env1 (poV P Ex), (poV P Ex).rt, (poV P Ex).bk, (poV P Ex).ct, (poV P Ex).ex⟩ := fun x hx => by
    cases x with
    | mal =>
      unfold wHnd
      rw [if_pos (show EK.mal = Exn.mal.kind from rfl)]
      exact hx
    | ref r =>
      unfold wHnd
      rw [if_neg (show ¬ EK.mal = (Exn.ref r).kind from by show ¬ EK.mal = EK.ref; decide)]
      unfold wHnd
      rw [if_pos (show EK.ref = (Exn.ref r).kind from rfl)]
      exact ⟨(by show 2 < 3; decide), (by rw [hi]; intro z; cases z), hx⟩
    | nt i =>
      unfold wHnd
      rw [if_neg (show ¬ EK.mal = (Exn.nt i).kind from by show ¬ EK.mal = EK.nt; decide)]
      unfold wHnd
      rw [if_neg (show ¬ EK.ref = (Exn.nt i).kind from by show ¬ EK.ref = EK.nt; decide)]
      exact hx
  obtain ⟨k1, k2, k3⟩ := key _ hx
  match as, h1, h5, k3 with
  | [a], _, _, k3 =>
    simp only [st_for, st_nil, st_expr, st_asg, st_asgl, st_unp, st_par, st_app, st_seti, st_ret, st_retn, st_ife, st_brk, st_cnt, st_rmal, st_tr, wRet, e_var, e_int, e_bl, e_non, e_str, e_fnv, e_gint, e_bin, e_neg, e_not, e_cmp, e_chn, e_isn, e_ntn, e_and, e_or, e_ite, e_tup, e_lst, e_call, e_cio, e_clv, e_blt, e_isi, e_ix, e_slc, e_rev, e_lrng, e_lc, e_met, wA, wP, wAnd, wOr, wT, wTA, wTO, kpN_sow, kpN_seq, kpN_rng, kpN_zip, kpN_enm, i_rng, i_seq, i_zip, i_enm, wCs, pk, at_, put, putAll, putCs, wTgt, rng_1, rng_2, zip_tt, zip_ll, enm_t, enm_l, cellOf, frE, frF, frB, isOwn, isOwnL, Op.rd, Cl.datum, List.getElem?_cons_zero, List.getElem?_cons_succ, List.getElem?_nil, Option.getD_some, Option.getD_none, List.set_cons_zero, List.set_cons_succ, ne_eq, reduceCtorEq, not_false_eq_true, not_true_eq_false, true_and, and_true, if_true, if_false, ite_true, ite_false, Bool.false_eq_true, Bool.true_eq_false, Bool.true_and, Bool.and_true, Bool.false_and, Bool.and_false, Bool.not_true, Bool.not_false, false_implies, true_implies, forall_const, implies_true, bin_add, bin_sub, bin_mul, bin_fdiv, bin_mod, bin_adds, bin_addt, bin_addl, bin_mull, bin_mult, cmp_lt, cmp_le, cmp_gt, cmp_ge, cmp_eqi, cmp_nei, cmp_eqb, cmp_eqs, tru_bl, tru_int, tru_non, tru_tup, tru_lst, tru_frz, ix_tup, len_tup, tpl_tup, lsl_tup, slc_tup, seq_tup, ix_lst, len_lst, tpl_lst, lsl_lst, slc_lst, seq_lst, ix_frz, len_frz, tpl_frz, lsl_frz, slc_frz, seq_frz, len_str, blt_abs, blt_int, blt_intb, blt_max, blt_min, blt_str, blt_all, blt_any, blt_sum, opt_0, opt_1, rng_1, rng_2, atI_0, atI_1, atI_2, atI_3, atI_4, ixN_20, ixN_21, ty_bl_int, ty_bl_bool, ty_bl_str, ty_bl_tuple, ty_bl_list, ht_bl, nn_bl, mu_bl, ty_int_int, ty_int_bool, ty_int_str, ty_int_tuple, ty_int_list, ht_int, nn_int, mu_int, ty_str_int, ty_str_bool, ty_str_str, ty_str_tuple, ty_str_list, ht_str, nn_str, mu_str, ty_tup_int, ty_tup_bool, ty_tup_str, ty_tup_tuple, ty_tup_list, ht_tup, nn_tup, mu_tup, ty_lst_int, ty_lst_bool, ty_lst_str, ty_lst_tuple, ty_lst_list, ht_lst, nn_lst, mu_lst, ty_frz_int, ty_frz_bool, ty_frz_str, ty_frz_tuple, ty_frz_list, ht_frz, nn_frz, mu_frz, ty_non_int, ty_non_bool, ty_non_str, ty_non_tuple, ty_non_list, ht_non, nn_non, mu_non, List.map_cons, List.map_nil, exists_eq_left', decide_eq_true_eq, exists_eq_left, List.length_cons, List.length_nil, Nat.reduceAdd, Int.reduceEq, Int.reduceLT, Int.reduceLE, Int.reduceNeg, decide_true, decide_false, Cl.own.injEq, D.tup.injEq, List.mem_cons, List.not_mem_nil, or_false, forall_eq_or_imp, forall_eq, Option.some.injEq, hi]
    exact ⟨n, rfl, k1, k2, k3⟩
  | [a, b], _, _, k3 =>
    simp only [st_for, st_nil, st_expr, st_asg, st_asgl, st_unp, st_par, st_app, st_seti, st_ret, st_retn, st_ife, st_brk, st_cnt, st_rmal, st_tr, wRet, e_var, e_int, e_bl, e_non, e_str, e_fnv, e_gint, e_bin, e_neg, e_not, e_cmp, e_chn, e_isn, e_ntn, e_and, e_or, e_ite, e_tup, e_lst, e_call, e_cio, e_clv, e_blt, e_isi, e_ix, e_slc, e_rev, e_lrng, e_lc, e_met, wA, wP, wAnd, wOr, wT, wTA, wTO, kpN_sow, kpN_seq, kpN_rng, kpN_zip, kpN_enm, i_rng, i_seq, i_zip, i_enm, wCs, pk, at_, put, putAll, putCs, wTgt, rng_1, rng_2, zip_tt, zip_ll, enm_t, enm_l, cellOf, frE, frF, frB, isOwn, isOwnL, Op.rd, Cl.datum, List.getElem?_cons_zero, List.getElem?_cons_succ, List.getElem?_nil, Option.getD_some, Option.getD_none, List.set_cons_zero, List.set_cons_succ, ne_eq, reduceCtorEq, not_false_eq_true, not_true_eq_false, true_and, and_true, if_true, if_false, ite_true, ite_false, Bool.false_eq_true, Bool.true_eq_false, Bool.true_and, Bool.and_true, Bool.false_and, Bool.and_false, Bool.not_true, Bool.not_false, false_implies, true_implies, forall_const, implies_true, bin_add, bin_sub, bin_mul, bin_fdiv, bin_mod, bin_adds, bin_addt, bin_addl, bin_mull, bin_mult, cmp_lt, cmp_le, cmp_gt, cmp_ge, cmp_eqi, cmp_nei, cmp_eqb, cmp_eqs, tru_bl, tru_int, tru_non, tru_tup, tru_lst, tru_frz, ix_tup, len_tup, tpl_tup, lsl_tup, slc_tup, seq_tup, ix_lst, len_lst, tpl_lst, lsl_lst, slc_lst, seq_lst, ix_frz, len_frz, tpl_frz, lsl_frz, slc_frz, seq_frz, len_str, blt_abs, blt_int, blt_intb, blt_max, blt_min, blt_str, blt_all, blt_any, blt_sum, opt_0, opt_1, rng_1, rng_2, atI_0, atI_1, atI_2, atI_3, atI_4, ixN_20, ixN_21, ty_bl_int, ty_bl_bool, ty_bl_str, ty_bl_tuple, ty_bl_list, ht_bl, nn_bl, mu_bl, ty_int_int, ty_int_bool, ty_int_str, ty_int_tuple, ty_int_list, ht_int, nn_int, mu_int, ty_str_int, ty_str_bool, ty_str_str, ty_str_tuple, ty_str_list, ht_str, nn_str, mu_str, ty_tup_int, ty_tup_bool, ty_tup_str, ty_tup_tuple, ty_tup_list, ht_tup, nn_tup, mu_tup, ty_lst_int, ty_lst_bool, ty_lst_str, ty_lst_tuple, ty_lst_list, ht_lst, nn_lst, mu_lst, ty_frz_int, ty_frz_bool, ty_frz_str, ty_frz_tuple, ty_frz_list, ht_frz, nn_frz, mu_frz, ty_non_int, ty_non_bool, ty_non_str, ty_non_tuple, ty_non_list, ht_non, nn_non, mu_non, List.map_cons, List.map_nil, exists_eq_left', decide_eq_true_eq, exists_eq_left, List.length_cons, List.length_nil, Nat.reduceAdd, Int.reduceEq, Int.reduceLT, Int.reduceLE, Int.reduceNeg, decide_true, decide_false, Cl.own.injEq, D.tup.injEq, List.mem_cons, List.not_mem_nil, or_false, forall_eq_or_imp, forall_eq, Option.some.injEq, hi]
    exact ⟨n, rfl, k1, k2, k3⟩
  | [a, b, c], _, _, k3 =>
    simp only [st_for, st_nil, st_expr, st_asg, st_asgl, st_unp, st_par, st_app, st_seti, st_ret, st_retn, st_ife, st_brk, st_cnt, st_rmal, st_tr, wRet, e_var, e_int, e_bl, e_non, e_str, e_fnv, e_gint, e_bin, e_neg, e_not, e_cmp, e_chn, e_isn, e_ntn, e_and, e_or, e_ite, e_tup, e_lst, e_call, e_cio, e_clv, e_blt, e_isi, e_ix, e_slc, e_rev, e_lrng, e_lc, e_met, wA, wP, wAnd, wOr, wT, wTA, wTO, kpN_sow, kpN_seq, kpN_rng, kpN_zip, kpN_enm, i_rng, i_seq, i_zip, i_enm, wCs, pk, at_, put, putAll, putCs, wTgt, rng_1, rng_2, zip_tt, zip_ll, enm_t, enm_l, cellOf, frE, frF, frB, isOwn, isOwnL, Op.rd, Cl.datum, List.getElem?_cons_zero, List.getElem?_cons_succ, List.getElem?_nil, Option.getD_some, Option.getD_none, List.set_cons_zero, List.set_cons_succ, ne_eq, reduceCtorEq, not_false_eq_true, not_true_eq_false, true_and, and_true, if_true, if_false, ite_true, ite_false, Bool.false_eq_true, Bool.true_eq_false, Bool.true_and, Bool.and_true, Bool.false_and, Bool.and_false, Bool.not_true, Bool.not_false, false_implies, true_implies, forall_const, implies_true, bin_add, bin_sub, bin_mul, bin_fdiv, bin_mod, bin_adds, bin_addt, bin_addl, bin_mull, bin_mult, cmp_lt, cmp_le, cmp_gt, cmp_ge, cmp_eqi, cmp_nei, cmp_eqb, cmp_eqs, tru_bl, tru_int, tru_non, tru_tup, tru_lst, tru_frz, ix_tup, len_tup, tpl_tup, lsl_tup, slc_tup, seq_tup, ix_lst, len_lst, tpl_lst, lsl_lst, slc_lst, seq_lst, ix_frz, len_frz, tpl_frz, lsl_frz, slc_frz, seq_frz, len_str, blt_abs, blt_int, blt_intb, blt_max, blt_min, blt_str, blt_all, blt_any, blt_sum, opt_0, opt_1, rng_1, rng_2, atI_0, atI_1, atI_2, atI_3, atI_4, ixN_20, ixN_21, ty_bl_int, ty_bl_bool, ty_bl_str, ty_bl_tuple, ty_bl_list, ht_bl, nn_bl, mu_bl, ty_int_int, ty_int_bool, ty_int_str, ty_int_tuple, ty_int_list, ht_int, nn_int, mu_int, ty_str_int, ty_str_bool, ty_str_str, ty_str_tuple, ty_str_list, ht_str, nn_str, mu_str, ty_tup_int, ty_tup_bool, ty_tup_str, ty_tup_tuple, ty_tup_list, ht_tup, nn_tup, mu_tup, ty_lst_int, ty_lst_bool, ty_lst_str, ty_lst_tuple, ty_lst_list, ht_lst, nn_lst, mu_lst, ty_frz_int, ty_frz_bool, ty_frz_str, ty_frz_tuple, ty_frz_list, ht_frz, nn_frz, mu_frz, ty_non_int, ty_non_bool, ty_non_str, ty_non_tuple, ty_non_list, ht_non, nn_non, mu_non, List.map_cons, List.map_nil, exists_eq_left', decide_eq_true_eq, exists_eq_left, List.length_cons, List.length_nil, Nat.reduceAdd, Int.reduceEq, Int.reduceLT, Int.reduceLE, Int.reduceNeg, decide_true, decide_false, Cl.own.injEq, D.tup.injEq, List.mem_cons, List.not_mem_nil, or_false, forall_eq_or_imp, forall_eq, Option.some.injEq, hi]
    exact ⟨n, rfl, k1, k2, k3⟩
  | [a, b, c, d], _, _, k3 =>
    simp only [st_for, st_nil, st_expr, st_asg, st_asgl, st_unp, st_par, st_app, st_seti, st_ret, st_retn, st_ife, st_brk, st_cnt, st_rmal, st_tr, wRet, e_var, e_int, e_bl, e_non, e_str, e_fnv, e_gint, e_bin, e_neg, e_not, e_cmp, e_chn, e_isn, e_ntn, e_and, e_or, e_ite, e_tup, e_lst, e_call, e_cio, e_clv, e_blt, e_isi, e_ix, e_slc, e_rev, e_lrng, e_lc, e_met, wA, wP, wAnd, wOr, wT, wTA, wTO, kpN_sow, kpN_seq, kpN_rng, kpN_zip, kpN_enm, i_rng, i_seq, i_zip, i_enm, wCs, pk, at_, put, putAll, putCs, wTgt, rng_1, rng_2, zip_tt, zip_ll, enm_t, enm_l, cellOf, frE, frF, frB, isOwn, isOwnL, Op.rd, Cl.datum, List.getElem?_cons_zero, List.getElem?_cons_succ, List.getElem?_nil, Option.getD_some, Option.getD_none, List.set_cons_zero, List.set_cons_succ, ne_eq, reduceCtorEq, not_false_eq_true, not_true_eq_false, true_and, and_true, if_true, if_false, ite_true, ite_false, Bool.false_eq_true, Bool.true_eq_false, Bool.true_and, Bool.and_true, Bool.false_and, Bool.and_false, Bool.not_true, Bool.not_false, false_implies, true_implies, forall_const, implies_true, bin_add, bin_sub, bin_mul, bin_fdiv, bin_mod, bin_adds, bin_addt, bin_addl, bin_mull, bin_mult, cmp_lt, cmp_le, cmp_gt, cmp_ge, cmp_eqi, cmp_nei, cmp_eqb, cmp_eqs, tru_bl, tru_int, tru_non, tru_tup, tru_lst, tru_frz, ix_tup, len_tup, tpl_tup, lsl_tup, slc_tup, seq_tup, ix_lst, len_lst, tpl_lst, lsl_lst, slc_lst, seq_lst, ix_frz, len_frz, tpl_frz, lsl_frz, slc_frz, seq_frz, len_str, blt_abs, blt_int, blt_intb, blt_max, blt_min, blt_str, blt_all, blt_any, blt_sum, opt_0, opt_1, rng_1, rng_2, atI_0, atI_1, atI_2, atI_3, atI_4, ixN_20, ixN_21, ty_bl_int, ty_bl_bool, ty_bl_str, ty_bl_tuple, ty_bl_list, ht_bl, nn_bl, mu_bl, ty_int_int, ty_int_bool, ty_int_str, ty_int_tuple, ty_int_list, ht_int, nn_int, mu_int, ty_str_int, ty_str_bool, ty_str_str, ty_str_tuple, ty_str_list, ht_str, nn_str, mu_str, ty_tup_int, ty_tup_bool, ty_tup_str, ty_tup_tuple, ty_tup_list, ht_tup, nn_tup, mu_tup, ty_lst_int, ty_lst_bool, ty_lst_str, ty_lst_tuple, ty_lst_list, ht_lst, nn_lst, mu_lst, ty_frz_int, ty_frz_bool, ty_frz_str, ty_frz_tuple, ty_frz_list, ht_frz, nn_frz, mu_frz, ty_non_int, ty_non_bool, ty_non_str, ty_non_tuple, ty_non_list, ht_non, nn_non, mu_non, List.map_cons, List.map_nil, exists_eq_left', decide_eq_true_eq, exists_eq_left, List.length_cons, List.length_nil, Nat.reduceAdd, Int.reduceEq, Int.reduceLT, Int.reduceLE, Int.reduceNeg, decide_true, decide_false, Cl.own.injEq, D.tup.injEq, List.mem_cons, List.not_mem_nil, or_false, forall_eq_or_imp, forall_eq, Option.some.injEq, hi]
    exact ⟨n, rfl, k1, k2, k3⟩
  | [a, b, c, d, e], _, _, k3 =>
    simp only [st_for, st_nil, st_expr, st_asg, st_asgl, st_unp, st_par, st_app, st_seti, st_ret, st_retn, st_ife, st_brk, st_cnt, st_rmal, st_tr, wRet, e_var, e_int, e_bl, e_non, e_str, e_fnv, e_gint, e_bin, e_neg, e_not, e_cmp, e_chn, e_isn, e_ntn, e_and, e_or, e_ite, e_tup, e_lst, e_call, e_cio, e_clv, e_blt, e_isi, e_ix, e_slc, e_rev, e_lrng, e_lc, e_met, wA, wP, wAnd, wOr, wT, wTA, wTO, kpN_sow, kpN_seq, kpN_rng, kpN_zip, kpN_enm, i_rng, i_seq, i_zip, i_enm, wCs, pk, at_, put, putAll, putCs, wTgt, rng_1, rng_2, zip_tt, zip_ll, enm_t, enm_l, cellOf, frE, frF, frB, isOwn, isOwnL, Op.rd, Cl.datum, List.getElem?_cons_zero, List.getElem?_cons_succ, List.getElem?_nil, Option.getD_some, Option.getD_none, List.set_cons_zero, List.set_cons_succ, ne_eq, reduceCtorEq, not_false_eq_true, not_true_eq_false, true_and, and_true, if_true, if_false, ite_true, ite_false, Bool.false_eq_true, Bool.true_eq_false, Bool.true_and, Bool.and_true, Bool.false_and, Bool.and_false, Bool.not_true, Bool.not_false, false_implies, true_implies, forall_const, implies_true, bin_add, bin_sub, bin_mul, bin_fdiv, bin_mod, bin_adds, bin_addt, bin_addl, bin_mull, bin_mult, cmp_lt, cmp_le, cmp_gt, cmp_ge, cmp_eqi, cmp_nei, cmp_eqb, cmp_eqs, tru_bl, tru_int, tru_non, tru_tup, tru_lst, tru_frz, ix_tup, len_tup, tpl_tup, lsl_tup, slc_tup, seq_tup, ix_lst, len_lst, tpl_lst, lsl_lst, slc_lst, seq_lst, ix_frz, len_frz, tpl_frz, lsl_frz, slc_frz, seq_frz, len_str, blt_abs, blt_int, blt_intb, blt_max, blt_min, blt_str, blt_all, blt_any, blt_sum, opt_0, opt_1, rng_1, rng_2, atI_0, atI_1, atI_2, atI_3, atI_4, ixN_20, ixN_21, ty_bl_int, ty_bl_bool, ty_bl_str, ty_bl_tuple, ty_bl_list, ht_bl, nn_bl, mu_bl, ty_int_int, ty_int_bool, ty_int_str, ty_int_tuple, ty_int_list, ht_int, nn_int, mu_int, ty_str_int, ty_str_bool, ty_str_str, ty_str_tuple, ty_str_list, ht_str, nn_str, mu_str, ty_tup_int, ty_tup_bool, ty_tup_str, ty_tup_tuple, ty_tup_list, ht_tup, nn_tup, mu_tup, ty_lst_int, ty_lst_bool, ty_lst_str, ty_lst_tuple, ty_lst_list, ht_lst, nn_lst, mu_lst, ty_frz_int, ty_frz_bool, ty_frz_str, ty_frz_tuple, ty_frz_list, ht_frz, nn_frz, mu_frz, ty_non_int, ty_non_bool, ty_non_str, ty_non_tuple, ty_non_list, ht_non, nn_non, mu_non, List.map_cons, List.map_nil, exists_eq_left', decide_eq_true_eq, exists_eq_left, List.length_cons, List.length_nil, Nat.reduceAdd, Int.reduceEq, Int.reduceLT, Int.reduceLE, Int.reduceNeg, decide_true, decide_false, Cl.own.injEq, D.tup.injEq, List.mem_cons, List.not_mem_nil, or_false, forall_eq_or_imp, forall_eq, Option.some.injEq, hi]
    exact ⟨n, rfl, k1, k2, k3⟩
  | [], h1, _, _ => simp at h1
  | _ :: _ :: _ :: _ :: _ :: _ :: _, _, h5, _ => simp at h5
/-! ### _law_all_malformed(tried) -/
def B_allmal (t : Nat) : S := .seq (.ret (.blt .all (.cons (.lc [1, 2] true (.seq (.var 0)) .nil (.cmp .eq (.call t (.cons (.var 1) (.cons (.var 2) .nil))) (.tup (.cons (.str "malformed") (.cons .non .nil))))) .nil))) .nil
abbrev tried (p : Nat × List D) : D := .tup [.fn p.1, .tup p.2]
/-- said of each that is tried: it is malformed -/
def bad (spv : Nat → Spec) (p : Nat × List D) : Prop := 1 ≤ p.2.length ∧ p.2.length ≤ 5 ∧ spv p.1 p.2 (fun _ _ => False) (fun e => e = .mal)
def allmal (spv : Nat → Spec) : Spec := fun ds P _ => ∃ its : List (Nat × List D), ds = [.lst (its.map tried)] ∧ its.length ≤ sizeLine ∧ (∀ p ∈ its, bad spv p) ∧ P (.bl true) .non
theorem W_allmal {t : Nat} {spv : Nat → Spec} (hi : G.iop = none) (ht : G.sp t = told spv) (hm : ∀ n ds P P' Ex Ex', spv n ds P Ex → (∀ d e, P d e → P' d e) → (∀ x, Ex x → Ex' x) → spv n ds P' Ex') (h : allmal spv ds P Ex) :
    ds.length = 1 ∧ wS G (B_allmal t) (vals ds (3 - ds.length)) (poV P Ex) := by
  obtain ⟨its, rfl, hl, hb, hp⟩ := h
  refine ⟨rfl, ?_⟩
  show wS _ (B_allmal t) [.val (.lst (its.map tried)), .emp, .emp] _
  unfold B_allmal
  simp only [st_for, st_nil, st_expr, st_asg, st_asgl, st_unp, st_par, st_app, st_seti, st_ret, st_retn, st_ife, st_brk, st_cnt, st_rmal, st_tr, wRet, e_var, e_int, e_bl, e_non, e_str, e_fnv, e_gint, e_bin, e_neg, e_not, e_cmp, e_chn, e_isn, e_ntn, e_and, e_or, e_ite, e_tup, e_lst, e_call, e_cio, e_clv, e_blt, e_isi, e_ix, e_slc, e_rev, e_lrng, e_lc, e_met, wA, wP, wAnd, wOr, wT, wTA, wTO, kpN_sow, kpN_seq, kpN_rng, kpN_zip, kpN_enm, i_rng, i_seq, i_zip, i_enm, wCs, wHnd, pk, at_, put, putAll, putCs, wTgt, rng_1, rng_2, zip_tt, zip_ll, enm_t, enm_l, cellOf, frE, frF, frB, isOwn, isOwnL, Op.rd, Cl.datum, List.getElem?_cons_zero, List.getElem?_cons_succ, List.getElem?_nil, Option.getD_some, Option.getD_none, List.set_cons_zero, List.set_cons_succ, ne_eq, reduceCtorEq, not_false_eq_true, not_true_eq_false, true_and, and_true, if_true, if_false, ite_true, ite_false, Bool.false_eq_true, Bool.true_eq_false, Bool.true_and, Bool.and_true, Bool.false_and, Bool.and_false, Bool.not_true, Bool.not_false, false_implies, true_implies, forall_const, implies_true, bin_add, bin_sub, bin_mul, bin_fdiv, bin_mod, bin_adds, bin_addt, bin_addl, bin_mull, bin_mult, cmp_lt, cmp_le, cmp_gt, cmp_ge, cmp_eqi, cmp_nei, cmp_eqb, cmp_eqs, tru_bl, tru_int, tru_non, tru_tup, tru_lst, tru_frz, ix_tup, len_tup, tpl_tup, lsl_tup, slc_tup, seq_tup, ix_lst, len_lst, tpl_lst, lsl_lst, slc_lst, seq_lst, ix_frz, len_frz, tpl_frz, lsl_frz, slc_frz, seq_frz, len_str, blt_abs, blt_int, blt_intb, blt_max, blt_min, blt_str, blt_all, blt_any, blt_sum, opt_0, opt_1, rng_1, rng_2, atI_0, atI_1, atI_2, atI_3, atI_4, ixN_20, ixN_21, ty_bl_int, ty_bl_bool, ty_bl_str, ty_bl_tuple, ty_bl_list, ht_bl, nn_bl, mu_bl, ty_int_int, ty_int_bool, ty_int_str, ty_int_tuple, ty_int_list, ht_int, nn_int, mu_int, ty_str_int, ty_str_bool, ty_str_str, ty_str_tuple, ty_str_list, ht_str, nn_str, mu_str, ty_tup_int, ty_tup_bool, ty_tup_str, ty_tup_tuple, ty_tup_list, ht_tup, nn_tup, mu_tup, ty_lst_int, ty_lst_bool, ty_lst_str, ty_lst_tuple, ty_lst_list, ht_lst, nn_lst, mu_lst, ty_frz_int, ty_frz_bool, ty_frz_str, ty_frz_tuple, ty_frz_list, ht_frz, nn_frz, mu_frz, ty_non_int, ty_non_bool, ty_non_str, ty_non_tuple, ty_non_list, ht_non, nn_non, mu_non, List.map_cons, List.map_nil, exists_eq_left', decide_eq_true_eq, exists_eq_left, List.length_cons, List.length_nil, Nat.reduceAdd, Int.reduceEq, Int.reduceLT, Int.reduceLE, Int.reduceNeg, decide_true, decide_false, Cl.own.injEq, D.tup.injEq, List.mem_cons, List.not_mem_nil, or_false, forall_eq_or_imp, forall_eq, Option.some.injEq, hi, ht]
  have e1 : its.map tried = (its.map fun p => (D.fn p.1, D.tup p.2)).map fun p => .tup [p.1, p.2] := by
    rw [List.map_map]
    rfl
  rw [e1]
  refine lcS_map2 (fun _ _ => .bl true) (by decide) (by show 1 < 3; decide) (by show 2 < 3; decide) (by rw [List.length_map]; exact hl) (fun p hp' k hk => ?_) ?_
  · obtain ⟨q, hq, rfl⟩ := List.mem_map.mp hp'
    obtain ⟨b1, b2, b3⟩ := hb q hq
    have e2 : eqD (.tup [.str "malformed", .non]) (.tup [.str "malformed", .non]) = true := by decide +kernel
    simp only [st_for, st_nil, st_expr, st_asg, st_asgl, st_unp, st_par, st_app, st_seti, st_ret, st_retn, st_ife, st_brk, st_cnt, st_rmal, st_tr, wRet, e_var, e_int, e_bl, e_non, e_str, e_fnv, e_gint, e_bin, e_neg, e_not, e_cmp, e_chn, e_isn, e_ntn, e_and, e_or, e_ite, e_tup, e_lst, e_call, e_cio, e_clv, e_blt, e_isi, e_ix, e_slc, e_rev, e_lrng, e_lc, e_met, wA, wP, wAnd, wOr, wT, wTA, wTO, kpN_sow, kpN_seq, kpN_rng, kpN_zip, kpN_enm, i_rng, i_seq, i_zip, i_enm, wCs, wHnd, pk, at_, put, putAll, putCs, wTgt, rng_1, rng_2, zip_tt, zip_ll, enm_t, enm_l, cellOf, frE, frF, frB, isOwn, isOwnL, Op.rd, Cl.datum, List.getElem?_cons_zero, List.getElem?_cons_succ, List.getElem?_nil, Option.getD_some, Option.getD_none, List.set_cons_zero, List.set_cons_succ, ne_eq, reduceCtorEq, not_false_eq_true, not_true_eq_false, true_and, and_true, if_true, if_false, ite_true, ite_false, Bool.false_eq_true, Bool.true_eq_false, Bool.true_and, Bool.and_true, Bool.false_and, Bool.and_false, Bool.not_true, Bool.not_false, false_implies, true_implies, forall_const, implies_true, bin_add, bin_sub, bin_mul, bin_fdiv, bin_mod, bin_adds, bin_addt, bin_addl, bin_mull, bin_mult, cmp_lt, cmp_le, cmp_gt, cmp_ge, cmp_eqi, cmp_nei, cmp_eqb, cmp_eqs, tru_bl, tru_int, tru_non, tru_tup, tru_lst, tru_frz, ix_tup, len_tup, tpl_tup, lsl_tup, slc_tup, seq_tup, ix_lst, len_lst, tpl_lst, lsl_lst, slc_lst, seq_lst, ix_frz, len_frz, tpl_frz, lsl_frz, slc_frz, seq_frz, len_str, blt_abs, blt_int, blt_intb, blt_max, blt_min, blt_str, blt_all, blt_any, blt_sum, opt_0, opt_1, rng_1, rng_2, atI_0, atI_1, atI_2, atI_3, atI_4, ixN_20, ixN_21, ty_bl_int, ty_bl_bool, ty_bl_str, ty_bl_tuple, ty_bl_list, ht_bl, nn_bl, mu_bl, ty_int_int, ty_int_bool, ty_int_str, ty_int_tuple, ty_int_list, ht_int, nn_int, mu_int, ty_str_int, ty_str_bool, ty_str_str, ty_str_tuple, ty_str_list, ht_str, nn_str, mu_str, ty_tup_int, ty_tup_bool, ty_tup_str, ty_tup_tuple, ty_tup_list, ht_tup, nn_tup, mu_tup, ty_lst_int, ty_lst_bool, ty_lst_str, ty_lst_tuple, ty_lst_list, ht_lst, nn_lst, mu_lst, ty_frz_int, ty_frz_bool, ty_frz_str, ty_frz_tuple, ty_frz_list, ht_frz, nn_frz, mu_frz, ty_non_int, ty_non_bool, ty_non_str, ty_non_tuple, ty_non_list, ht_non, nn_non, mu_non, List.map_cons, List.map_nil, exists_eq_left', decide_eq_true_eq, exists_eq_left, List.length_cons, List.length_nil, Nat.reduceAdd, Int.reduceEq, Int.reduceLT, Int.reduceLE, Int.reduceNeg, decide_true, decide_false, Cl.own.injEq, D.tup.injEq, List.mem_cons, List.not_mem_nil, or_false, forall_eq_or_imp, forall_eq, Option.some.injEq, hi, ht]
    refine ⟨q.1, q.2, rfl, b1, b2, hm _ _ _ _ _ _ b3 (fun _ _ z => z.elim) fun x hx => ?_⟩
    subst hx
    simp only [toldX]
    rw [cmp_eq, e2]
    exact ⟨.inr ⟨⟨by decide +kernel, by decide +kernel⟩, by decide +kernel, by decide +kernel⟩, hk⟩
  · simp only [st_for, st_nil, st_expr, st_asg, st_asgl, st_unp, st_par, st_app, st_seti, st_ret, st_retn, st_ife, st_brk, st_cnt, st_rmal, st_tr, wRet, e_var, e_int, e_bl, e_non, e_str, e_fnv, e_gint, e_bin, e_neg, e_not, e_cmp, e_chn, e_isn, e_ntn, e_and, e_or, e_ite, e_tup, e_lst, e_call, e_cio, e_clv, e_blt, e_isi, e_ix, e_slc, e_rev, e_lrng, e_lc, e_met, wA, wP, wAnd, wOr, wT, wTA, wTO, kpN_sow, kpN_seq, kpN_rng, kpN_zip, kpN_enm, i_rng, i_seq, i_zip, i_enm, wCs, wHnd, pk, at_, put, putAll, putCs, wTgt, rng_1, rng_2, zip_tt, zip_ll, enm_t, enm_l, cellOf, frE, frF, frB, isOwn, isOwnL, Op.rd, Cl.datum, List.getElem?_cons_zero, List.getElem?_cons_succ, List.getElem?_nil, Option.getD_some, Option.getD_none, List.set_cons_zero, List.set_cons_succ, ne_eq, reduceCtorEq, not_false_eq_true, not_true_eq_false, true_and, and_true, if_true, if_false, ite_true, ite_false, Bool.false_eq_true, Bool.true_eq_false, Bool.true_and, Bool.and_true, Bool.false_and, Bool.and_false, Bool.not_true, Bool.not_false, false_implies, true_implies, forall_const, implies_true, bin_add, bin_sub, bin_mul, bin_fdiv, bin_mod, bin_adds, bin_addt, bin_addl, bin_mull, bin_mult, cmp_lt, cmp_le, cmp_gt, cmp_ge, cmp_eqi, cmp_nei, cmp_eqb, cmp_eqs, tru_bl, tru_int, tru_non, tru_tup, tru_lst, tru_frz, ix_tup, len_tup, tpl_tup, lsl_tup, slc_tup, seq_tup, ix_lst, len_lst, tpl_lst, lsl_lst, slc_lst, seq_lst, ix_frz, len_frz, tpl_frz, lsl_frz, slc_frz, seq_frz, len_str, blt_abs, blt_int, blt_intb, blt_max, blt_min, blt_str, blt_all, blt_any, blt_sum, opt_0, opt_1, rng_1, rng_2, atI_0, atI_1, atI_2, atI_3, atI_4, ixN_20, ixN_21, ty_bl_int, ty_bl_bool, ty_bl_str, ty_bl_tuple, ty_bl_list, ht_bl, nn_bl, mu_bl, ty_int_int, ty_int_bool, ty_int_str, ty_int_tuple, ty_int_list, ht_int, nn_int, mu_int, ty_str_int, ty_str_bool, ty_str_str, ty_str_tuple, ty_str_list, ht_str, nn_str, mu_str, ty_tup_int, ty_tup_bool, ty_tup_str, ty_tup_tuple, ty_tup_list, ht_tup, nn_tup, mu_tup, ty_lst_int, ty_lst_bool, ty_lst_str, ty_lst_tuple, ty_lst_list, ht_lst, nn_lst, mu_lst, ty_frz_int, ty_frz_bool, ty_frz_str, ty_frz_tuple, ty_frz_list, ht_frz, nn_frz, mu_frz, ty_non_int, ty_non_bool, ty_non_str, ty_non_tuple, ty_non_list, ht_non, nn_non, mu_non, List.map_cons, List.map_nil, exists_eq_left', decide_eq_true_eq, exists_eq_left, List.length_cons, List.length_nil, Nat.reduceAdd, Int.reduceEq, Int.reduceLT, Int.reduceLE, Int.reduceNeg, decide_true, decide_false, Cl.own.injEq, D.tup.injEq, List.mem_cons, List.not_mem_nil, or_false, forall_eq_or_imp, forall_eq, Option.some.injEq, hi]
    have e3 : (List.map (fun p : D × D => D.bl true) (its.map fun p => (D.fn p.1, D.tup p.2))) = List.replicate its.length (.bl true) := by
      rw [List.map_map]
      exact List.eq_replicate_iff.mpr ⟨by simp, fun b hb => by obtain ⟨_, _, e⟩ := List.mem_map.mp hb; exact e.symm⟩
    rw [e3]
    refine ⟨_, bls_rep _ _, ?_⟩
    have e4 : (List.replicate its.length true).all id = true := by simp
    rw [e4]
    exact hp
end
end Pd.M

/-! What is said of defs, by the number of their arguments; equations to reckon with. -/
namespace Pd
open L2 PyProof.Rows PySem.Spec PySem
abbrev Sp0 := (D → D → Prop) → (Exn → Prop) → Prop
abbrev Sp1 := D → Sp0
abbrev Sp2 := D → Sp1
abbrev Sp3 := D → Sp2
abbrev Sp4 := D → Sp3
abbrev Sp5 := D → Sp4
abbrev Sp6 := D → Sp5
def S0 (f : Sp0) : Spec
  | [], P, X => f P X
  | _, _, _ => False
def S1 (f : Sp1) : Spec
  | [a], P, X => f a P X
  | _, _, _ => False
def S2 (f : Sp2) : Spec
  | [a, b], P, X => f a b P X
  | _, _, _ => False
def S3 (f : Sp3) : Spec
  | [a, b, c], P, X => f a b c P X
  | _, _, _ => False
def S4 (f : Sp4) : Spec
  | [a, b, c, d], P, X => f a b c d P X
  | _, _, _ => False
def S5 (f : Sp5) : Spec
  | [a, b, c, d, e], P, X => f a b c d e P X
  | _, _, _ => False
def S6 (f : Sp6) : Spec
  | [a, b, c, d, e, g], P, X => f a b c d e g P X
  | _, _, _ => False
section
variable {a b c d e g : D} {P : D → D → Prop} {X : Exn → Prop}
theorem S0_eq {f : Sp0} : S0 f [] P X = f P X := rfl
theorem S1_eq {f : Sp1} : S1 f [a] P X = f a P X := rfl
theorem S2_eq {f : Sp2} : S2 f [a, b] P X = f a b P X := rfl
theorem S3_eq {f : Sp3} : S3 f [a, b, c] P X = f a b c P X := rfl
theorem S4_eq {f : Sp4} : S4 f [a, b, c, d] P X = f a b c d P X := rfl
theorem S5_eq {f : Sp5} : S5 f [a, b, c, d, e] P X = f a b c d e P X := rfl
theorem S6_eq {f : Sp6} : S6 f [a, b, c, d, e, g] P X = f a b c d e g P X := rfl
end
section
variable {T : List Fd} {ek : EK → Bool} {f : Fd} {b : S} {n : Nat} {s1 : Sp1} {s2 : Sp2} {s3 : Sp3} {s4 : Sp4} {s5 : Sp5} {s6 : Sp6} {s0 : Sp0}
abbrev em (n : Nat) : Loca := List.replicate n .emp
theorem gV0 (h1 : f.io = false) (h2 : f.fr = false) (h3 : f.lv ≠ 0) (h4 : f.sp = S0 s0) (h5 : f.b = b) (h6 : f.N.length = n) (h7 : f.ps.length = 0)
    (h : ∀ P X, s0 P X → wS (gxOf T ek f) b (em n) (poV P X)) : Good T ek f := by
  refine goodV h1 h2 h3 fun ds P X hs => ?_
  rw [h4] at hs
  match ds, hs with
  | [], hs => exact ⟨h7.symm, by rw [h5, h6]; exact h P X hs⟩
theorem gF0 (h1 : f.io = false) (h2 : f.fr = true) (h3 : f.lv ≠ 0) (h4 : f.sp = S0 s0) (h5 : f.b = b) (h6 : f.N.length = n) (h7 : f.ps.length = 0)
    (h : ∀ P X, s0 P X → wS (gxOf T ek f) b (em n) (poF P X)) : Good T ek f := by
  refine goodF h1 h2 h3 fun ds P X hs => ?_
  rw [h4] at hs
  match ds, hs with
  | [], hs => exact ⟨h7.symm, by rw [h5, h6]; exact h P X hs⟩
theorem gV1 (h1 : f.io = false) (h2 : f.fr = false) (h3 : f.lv ≠ 0) (h4 : f.sp = S1 s1) (h5 : f.b = b) (h6 : f.N.length = n + 1) (h7 : f.ps.length = 1)
    (h : ∀ a' P X, s1 a' P X → wS (gxOf T ek f) b (.val a' :: em n) (poV P X)) : Good T ek f := by
  refine goodV h1 h2 h3 fun ds P X hs => ?_
  rw [h4] at hs
  match ds, hs with
  | [a'], hs =>
    refine ⟨h7.symm, ?_⟩
    rw [h5, h6]
    exact h _ P X hs
theorem gF1 (h1 : f.io = false) (h2 : f.fr = true) (h3 : f.lv ≠ 0) (h4 : f.sp = S1 s1) (h5 : f.b = b) (h6 : f.N.length = n + 1) (h7 : f.ps.length = 1)
    (h : ∀ a' P X, s1 a' P X → wS (gxOf T ek f) b (.val a' :: em n) (poF P X)) : Good T ek f := by
  refine goodF h1 h2 h3 fun ds P X hs => ?_
  rw [h4] at hs
  match ds, hs with
  | [a'], hs =>
    refine ⟨h7.symm, ?_⟩
    rw [h5, h6]
    exact h _ P X hs
theorem gI1 (h1 : f.io = true) (h3 : f.lv ≠ 0) (h4 : f.sp = S1 s1) (h5 : f.b = b) (h6 : f.N.length = n + 1) (h7 : f.ps.length = 1)
    (h : ∀ a' P X, s1 a' P X → wS (gxOf T ek f) b (.own a' :: em n) (poI P)) : Good T ek f := by
  refine goodI h1 h3 fun ds P X hs => ?_
  rw [h4] at hs
  match ds, hs with
  | [a'], hs =>
    refine ⟨_, _, rfl, h7.symm, ?_⟩
    rw [h5, h6]
    exact h _ P X hs
theorem gV2 (h1 : f.io = false) (h2 : f.fr = false) (h3 : f.lv ≠ 0) (h4 : f.sp = S2 s2) (h5 : f.b = b) (h6 : f.N.length = n + 2) (h7 : f.ps.length = 2)
    (h : ∀ a' b' P X, s2 a' b' P X → wS (gxOf T ek f) b (.val a' :: .val b' :: em n) (poV P X)) : Good T ek f := by
  refine goodV h1 h2 h3 fun ds P X hs => ?_
  rw [h4] at hs
  match ds, hs with
  | [a', b'], hs =>
    refine ⟨h7.symm, ?_⟩
    rw [h5, h6]
    exact h _ _ P X hs
theorem gF2 (h1 : f.io = false) (h2 : f.fr = true) (h3 : f.lv ≠ 0) (h4 : f.sp = S2 s2) (h5 : f.b = b) (h6 : f.N.length = n + 2) (h7 : f.ps.length = 2)
    (h : ∀ a' b' P X, s2 a' b' P X → wS (gxOf T ek f) b (.val a' :: .val b' :: em n) (poF P X)) : Good T ek f := by
  refine goodF h1 h2 h3 fun ds P X hs => ?_
  rw [h4] at hs
  match ds, hs with
  | [a', b'], hs =>
    refine ⟨h7.symm, ?_⟩
    rw [h5, h6]
    exact h _ _ P X hs
theorem gI2 (h1 : f.io = true) (h3 : f.lv ≠ 0) (h4 : f.sp = S2 s2) (h5 : f.b = b) (h6 : f.N.length = n + 2) (h7 : f.ps.length = 2)
    (h : ∀ a' b' P X, s2 a' b' P X → wS (gxOf T ek f) b (.own a' :: .val b' :: em n) (poI P)) : Good T ek f := by
  refine goodI h1 h3 fun ds P X hs => ?_
  rw [h4] at hs
  match ds, hs with
  | [a', b'], hs =>
    refine ⟨_, _, rfl, h7.symm, ?_⟩
    rw [h5, h6]
    exact h _ _ P X hs
theorem gV3 (h1 : f.io = false) (h2 : f.fr = false) (h3 : f.lv ≠ 0) (h4 : f.sp = S3 s3) (h5 : f.b = b) (h6 : f.N.length = n + 3) (h7 : f.ps.length = 3)
    (h : ∀ a' b' c' P X, s3 a' b' c' P X → wS (gxOf T ek f) b (.val a' :: .val b' :: .val c' :: em n) (poV P X)) : Good T ek f := by
  refine goodV h1 h2 h3 fun ds P X hs => ?_
  rw [h4] at hs
  match ds, hs with
  | [a', b', c'], hs =>
    refine ⟨h7.symm, ?_⟩
    rw [h5, h6]
    exact h _ _ _ P X hs
theorem gF3 (h1 : f.io = false) (h2 : f.fr = true) (h3 : f.lv ≠ 0) (h4 : f.sp = S3 s3) (h5 : f.b = b) (h6 : f.N.length = n + 3) (h7 : f.ps.length = 3)
    (h : ∀ a' b' c' P X, s3 a' b' c' P X → wS (gxOf T ek f) b (.val a' :: .val b' :: .val c' :: em n) (poF P X)) : Good T ek f := by
  refine goodF h1 h2 h3 fun ds P X hs => ?_
  rw [h4] at hs
  match ds, hs with
  | [a', b', c'], hs =>
    refine ⟨h7.symm, ?_⟩
    rw [h5, h6]
    exact h _ _ _ P X hs
theorem gI3 (h1 : f.io = true) (h3 : f.lv ≠ 0) (h4 : f.sp = S3 s3) (h5 : f.b = b) (h6 : f.N.length = n + 3) (h7 : f.ps.length = 3)
    (h : ∀ a' b' c' P X, s3 a' b' c' P X → wS (gxOf T ek f) b (.own a' :: .val b' :: .val c' :: em n) (poI P)) : Good T ek f := by
  refine goodI h1 h3 fun ds P X hs => ?_
  rw [h4] at hs
  match ds, hs with
  | [a', b', c'], hs =>
    refine ⟨_, _, rfl, h7.symm, ?_⟩
    rw [h5, h6]
    exact h _ _ _ P X hs
theorem gV4 (h1 : f.io = false) (h2 : f.fr = false) (h3 : f.lv ≠ 0) (h4 : f.sp = S4 s4) (h5 : f.b = b) (h6 : f.N.length = n + 4) (h7 : f.ps.length = 4)
    (h : ∀ a' b' c' d' P X, s4 a' b' c' d' P X → wS (gxOf T ek f) b (.val a' :: .val b' :: .val c' :: .val d' :: em n) (poV P X)) : Good T ek f := by
  refine goodV h1 h2 h3 fun ds P X hs => ?_
  rw [h4] at hs
  match ds, hs with
  | [a', b', c', d'], hs =>
    refine ⟨h7.symm, ?_⟩
    rw [h5, h6]
    exact h _ _ _ _ P X hs
theorem gF4 (h1 : f.io = false) (h2 : f.fr = true) (h3 : f.lv ≠ 0) (h4 : f.sp = S4 s4) (h5 : f.b = b) (h6 : f.N.length = n + 4) (h7 : f.ps.length = 4)
    (h : ∀ a' b' c' d' P X, s4 a' b' c' d' P X → wS (gxOf T ek f) b (.val a' :: .val b' :: .val c' :: .val d' :: em n) (poF P X)) : Good T ek f := by
  refine goodF h1 h2 h3 fun ds P X hs => ?_
  rw [h4] at hs
  match ds, hs with
  | [a', b', c', d'], hs =>
    refine ⟨h7.symm, ?_⟩
    rw [h5, h6]
    exact h _ _ _ _ P X hs
theorem gI4 (h1 : f.io = true) (h3 : f.lv ≠ 0) (h4 : f.sp = S4 s4) (h5 : f.b = b) (h6 : f.N.length = n + 4) (h7 : f.ps.length = 4)
    (h : ∀ a' b' c' d' P X, s4 a' b' c' d' P X → wS (gxOf T ek f) b (.own a' :: .val b' :: .val c' :: .val d' :: em n) (poI P)) : Good T ek f := by
  refine goodI h1 h3 fun ds P X hs => ?_
  rw [h4] at hs
  match ds, hs with
  | [a', b', c', d'], hs =>
    refine ⟨_, _, rfl, h7.symm, ?_⟩
    rw [h5, h6]
    exact h _ _ _ _ P X hs
theorem gV5 (h1 : f.io = false) (h2 : f.fr = false) (h3 : f.lv ≠ 0) (h4 : f.sp = S5 s5) (h5 : f.b = b) (h6 : f.N.length = n + 5) (h7 : f.ps.length = 5)
    (h : ∀ a' b' c' d' e' P X, s5 a' b' c' d' e' P X → wS (gxOf T ek f) b (.val a' :: .val b' :: .val c' :: .val d' :: .val e' :: em n) (poV P X)) : Good T ek f := by
  refine goodV h1 h2 h3 fun ds P X hs => ?_
  rw [h4] at hs
  match ds, hs with
  | [a', b', c', d', e'], hs =>
    refine ⟨h7.symm, ?_⟩
    rw [h5, h6]
    exact h _ _ _ _ _ P X hs
theorem gF5 (h1 : f.io = false) (h2 : f.fr = true) (h3 : f.lv ≠ 0) (h4 : f.sp = S5 s5) (h5 : f.b = b) (h6 : f.N.length = n + 5) (h7 : f.ps.length = 5)
    (h : ∀ a' b' c' d' e' P X, s5 a' b' c' d' e' P X → wS (gxOf T ek f) b (.val a' :: .val b' :: .val c' :: .val d' :: .val e' :: em n) (poF P X)) : Good T ek f := by
  refine goodF h1 h2 h3 fun ds P X hs => ?_
  rw [h4] at hs
  match ds, hs with
  | [a', b', c', d', e'], hs =>
    refine ⟨h7.symm, ?_⟩
    rw [h5, h6]
    exact h _ _ _ _ _ P X hs
theorem gI5 (h1 : f.io = true) (h3 : f.lv ≠ 0) (h4 : f.sp = S5 s5) (h5 : f.b = b) (h6 : f.N.length = n + 5) (h7 : f.ps.length = 5)
    (h : ∀ a' b' c' d' e' P X, s5 a' b' c' d' e' P X → wS (gxOf T ek f) b (.own a' :: .val b' :: .val c' :: .val d' :: .val e' :: em n) (poI P)) : Good T ek f := by
  refine goodI h1 h3 fun ds P X hs => ?_
  rw [h4] at hs
  match ds, hs with
  | [a', b', c', d', e'], hs =>
    refine ⟨_, _, rfl, h7.symm, ?_⟩
    rw [h5, h6]
    exact h _ _ _ _ _ P X hs
theorem gV6 (h1 : f.io = false) (h2 : f.fr = false) (h3 : f.lv ≠ 0) (h4 : f.sp = S6 s6) (h5 : f.b = b) (h6 : f.N.length = n + 6) (h7 : f.ps.length = 6)
    (h : ∀ a' b' c' d' e' g' P X, s6 a' b' c' d' e' g' P X → wS (gxOf T ek f) b (.val a' :: .val b' :: .val c' :: .val d' :: .val e' :: .val g' :: em n) (poV P X)) : Good T ek f := by
  refine goodV h1 h2 h3 fun ds P X hs => ?_
  rw [h4] at hs
  match ds, hs with
  | [a', b', c', d', e', g'], hs =>
    refine ⟨h7.symm, ?_⟩
    rw [h5, h6]
    exact h _ _ _ _ _ _ P X hs
theorem gF6 (h1 : f.io = false) (h2 : f.fr = true) (h3 : f.lv ≠ 0) (h4 : f.sp = S6 s6) (h5 : f.b = b) (h6 : f.N.length = n + 6) (h7 : f.ps.length = 6)
    (h : ∀ a' b' c' d' e' g' P X, s6 a' b' c' d' e' g' P X → wS (gxOf T ek f) b (.val a' :: .val b' :: .val c' :: .val d' :: .val e' :: .val g' :: em n) (poF P X)) : Good T ek f := by
  refine goodF h1 h2 h3 fun ds P X hs => ?_
  rw [h4] at hs
  match ds, hs with
  | [a', b', c', d', e', g'], hs =>
    refine ⟨h7.symm, ?_⟩
    rw [h5, h6]
    exact h _ _ _ _ _ _ P X hs
theorem gI6 (h1 : f.io = true) (h3 : f.lv ≠ 0) (h4 : f.sp = S6 s6) (h5 : f.b = b) (h6 : f.N.length = n + 6) (h7 : f.ps.length = 6)
    (h : ∀ a' b' c' d' e' g' P X, s6 a' b' c' d' e' g' P X → wS (gxOf T ek f) b (.own a' :: .val b' :: .val c' :: .val d' :: .val e' :: .val g' :: em n) (poI P)) : Good T ek f := by
  refine goodI h1 h3 fun ds P X hs => ?_
  rw [h4] at hs
  match ds, hs with
  | [a', b', c', d', e', g'], hs =>
    refine ⟨_, _, rfl, h7.symm, ?_⟩
    rw [h5, h6]
    exact h _ _ _ _ _ _ P X hs
end
theorem S0_mono {f : Sp0} {ds : List D} {P P' : D → D → Prop} {X X' : Exn → Prop} (h : f  P X → f  P' X') : S0 f ds P X → S0 f ds P' X' := by
  intro hs
  match ds, hs with
  | [], hs => exact h hs
theorem S1_mono {f : Sp1} {ds : List D} {P P' : D → D → Prop} {X X' : Exn → Prop} (h : ∀ a, f a P X → f a P' X') : S1 f ds P X → S1 f ds P' X' := by
  intro hs
  match ds, hs with
  | [a], hs => exact h _ hs
theorem S2_mono {f : Sp2} {ds : List D} {P P' : D → D → Prop} {X X' : Exn → Prop} (h : ∀ a b, f a b P X → f a b P' X') : S2 f ds P X → S2 f ds P' X' := by
  intro hs
  match ds, hs with
  | [a, b], hs => exact h _ _ hs
theorem S3_mono {f : Sp3} {ds : List D} {P P' : D → D → Prop} {X X' : Exn → Prop} (h : ∀ a b c, f a b c P X → f a b c P' X') : S3 f ds P X → S3 f ds P' X' := by
  intro hs
  match ds, hs with
  | [a, b, c], hs => exact h _ _ _ hs
theorem S4_mono {f : Sp4} {ds : List D} {P P' : D → D → Prop} {X X' : Exn → Prop} (h : ∀ a b c d, f a b c d P X → f a b c d P' X') : S4 f ds P X → S4 f ds P' X' := by
  intro hs
  match ds, hs with
  | [a, b, c, d], hs => exact h _ _ _ _ hs
theorem S5_mono {f : Sp5} {ds : List D} {P P' : D → D → Prop} {X X' : Exn → Prop} (h : ∀ a b c d e, f a b c d e P X → f a b c d e P' X') : S5 f ds P X → S5 f ds P' X' := by
  intro hs
  match ds, hs with
  | [a, b, c, d, e], hs => exact h _ _ _ _ _ hs
theorem S6_mono {f : Sp6} {ds : List D} {P P' : D → D → Prop} {X X' : Exn → Prop} (h : ∀ a b c d e g, f a b c d e g P X → f a b c d e g P' X') : S6 f ds P X → S6 f ds P' X' := by
  intro hs
  match ds, hs with
  | [a, b, c, d, e, g], hs => exact h _ _ _ _ _ _ hs
theorem ite_mono {c : Prop} [Decidable c] {A B A' B' : Prop} (h1 : A → A') (h2 : B → B') : (if c then A else B) → (if c then A' else B') := by
  split
  · exact h1
  · exact h2
theorem all_mono {α : Sort _} {A B : α → Prop} (h : ∀ x, A x → B x) : (∀ x, A x) → ∀ x, B x := fun k x => h x (k x)
theorem ex_mono {α : Sort _} {A B : α → Prop} (h : ∀ x, A x → B x) : (∃ x, A x) → ∃ x, B x := fun ⟨x, k⟩ => ⟨x, h x k⟩
/-! ### names that are looked at -/
def pkv (c : Cl) (i : Nat) (env : Loca) (Q : Op → Loca → Prop) : Prop := match c with
  | .val d => Q (.dat d) env
  | .own _ => Q (.slot i) env
  | .emp => False
def evv (G : Gx) (c : Cl) (i : Nat) (env : Loca) (Q : D → Loca → Prop) : Prop := match c with
  | .val d => Q d env
  | .own d => G.iop ≠ some i ∧ Q d (put env i (.val d))
  | .emp => False
def rtv (G : Gx) (c : Cl) (i : Nat) (env : Loca) (P : Po) : Prop := match c with
  | .val d => P.rt d false env
  | .own d => G.iop ≠ some i ∧ P.rt d true env
  | .emp => False
section
variable {G : Gx} {env : Loca} {d : D}
theorem pkv_val {i : Nat} {Q : Op → Loca → Prop} : pkv (.val d) i env Q = Q (.dat d) env := rfl
theorem pkv_own {i : Nat} {Q : Op → Loca → Prop} : pkv (.own d) i env Q = Q (.slot i) env := rfl
theorem evv_val {i : Nat} {Q : D → Loca → Prop} : evv G (.val d) i env Q = Q d env := rfl
theorem evv_own {i : Nat} {Q : D → Loca → Prop} : evv G (.own d) i env Q = (G.iop ≠ some i ∧ Q d (put env i (.val d))) := rfl
theorem rtv_val {i : Nat} {P : Po} : rtv G (.val d) i env P = P.rt d false env := rfl
theorem rtv_own {i : Nat} {P : Po} : rtv G (.own d) i env P = (G.iop ≠ some i ∧ P.rt d true env) := rfl
theorem rd_dat : (Op.dat d).rd env = d := rfl
theorem rd_slot {i : Nat} : (Op.slot i).rd env = (at_ env i).datum := rfl
theorem dm_val : (Cl.val d).datum = d := rfl
theorem dm_own : (Cl.own d).datum = d := rfl
theorem ev_var {i : Nat} {Q : D → Loca → Prop} {X : Exn → Loca → Prop} : wE G (.var i) env Q X = evv G (at_ env i) i env Q := rfl
theorem pk_var {i : Nat} {f : Wf} {Q : Op → Loca → Prop} {X : Exn → Loca → Prop} : pk (.var i) f env Q X = pkv (at_ env i) i env Q := rfl
theorem rt_var {i : Nat} {P : Po} : wRet G (.var i) env P = rtv G (at_ env i) i env P := rfl
theorem pk_int {i : Int} {f : Wf} {Q : Op → Loca → Prop} {X : Exn → Loca → Prop} : pk (.int i) f env Q X = f env (fun d env' => Q (.dat d) env') X := rfl
theorem rt_int {i : Int} {P : Po} : wRet G (.int i) env P = wE G (.int i) env (fun d env1 => P.rt d (frE G.tb (.int i)) env1) P.ex := rfl
theorem pk_bl {b : Bool} {f : Wf} {Q : Op → Loca → Prop} {X : Exn → Loca → Prop} : pk (.bl b) f env Q X = f env (fun d env' => Q (.dat d) env') X := rfl
theorem rt_bl {b : Bool} {P : Po} : wRet G (.bl b) env P = wE G (.bl b) env (fun d env1 => P.rt d (frE G.tb (.bl b)) env1) P.ex := rfl
theorem pk_non  {f : Wf} {Q : Op → Loca → Prop} {X : Exn → Loca → Prop} : pk .non f env Q X = f env (fun d env' => Q (.dat d) env') X := rfl
theorem rt_non  {P : Po} : wRet G .non env P = wE G .non env (fun d env1 => P.rt d (frE G.tb .non) env1) P.ex := rfl
theorem pk_str {s : Str} {f : Wf} {Q : Op → Loca → Prop} {X : Exn → Loca → Prop} : pk (.str s) f env Q X = f env (fun d env' => Q (.dat d) env') X := rfl
theorem rt_str {s : Str} {P : Po} : wRet G (.str s) env P = wE G (.str s) env (fun d env1 => P.rt d (frE G.tb (.str s)) env1) P.ex := rfl
theorem pk_fnv {n : Nat} {f : Wf} {Q : Op → Loca → Prop} {X : Exn → Loca → Prop} : pk (.fnv n) f env Q X = f env (fun d env' => Q (.dat d) env') X := rfl
theorem rt_fnv {n : Nat} {P : Po} : wRet G (.fnv n) env P = wE G (.fnv n) env (fun d env1 => P.rt d (frE G.tb (.fnv n)) env1) P.ex := rfl
theorem pk_gint {x : Str} {i : Int} {f : Wf} {Q : Op → Loca → Prop} {X : Exn → Loca → Prop} : pk (.gint x i) f env Q X = f env (fun d env' => Q (.dat d) env') X := rfl
theorem rt_gint {x : Str} {i : Int} {P : Po} : wRet G (.gint x i) env P = wE G (.gint x i) env (fun d env1 => P.rt d (frE G.tb (.gint x i)) env1) P.ex := rfl
theorem pk_bin {o : BO} {a b : E} {f : Wf} {Q : Op → Loca → Prop} {X : Exn → Loca → Prop} : pk (.bin o a b) f env Q X = f env (fun d env' => Q (.dat d) env') X := rfl
theorem rt_bin {o : BO} {a b : E} {P : Po} : wRet G (.bin o a b) env P = wE G (.bin o a b) env (fun d env1 => P.rt d (frE G.tb (.bin o a b)) env1) P.ex := rfl
theorem pk_neg {a : E} {f : Wf} {Q : Op → Loca → Prop} {X : Exn → Loca → Prop} : pk (.neg a) f env Q X = f env (fun d env' => Q (.dat d) env') X := rfl
theorem rt_neg {a : E} {P : Po} : wRet G (.neg a) env P = wE G (.neg a) env (fun d env1 => P.rt d (frE G.tb (.neg a)) env1) P.ex := rfl
theorem pk_not {a : E} {f : Wf} {Q : Op → Loca → Prop} {X : Exn → Loca → Prop} : pk (.not a) f env Q X = f env (fun d env' => Q (.dat d) env') X := rfl
theorem rt_not {a : E} {P : Po} : wRet G (.not a) env P = wE G (.not a) env (fun d env1 => P.rt d (frE G.tb (.not a)) env1) P.ex := rfl
theorem pk_cmp {o : CO} {a b : E} {f : Wf} {Q : Op → Loca → Prop} {X : Exn → Loca → Prop} : pk (.cmp o a b) f env Q X = f env (fun d env' => Q (.dat d) env') X := rfl
theorem rt_cmp {o : CO} {a b : E} {P : Po} : wRet G (.cmp o a b) env P = wE G (.cmp o a b) env (fun d env1 => P.rt d (frE G.tb (.cmp o a b)) env1) P.ex := rfl
theorem pk_chn {o o' : CO} {a b c : E} {f : Wf} {Q : Op → Loca → Prop} {X : Exn → Loca → Prop} : pk (.chn o o' a b c) f env Q X = f env (fun d env' => Q (.dat d) env') X := rfl
theorem rt_chn {o o' : CO} {a b c : E} {P : Po} : wRet G (.chn o o' a b c) env P = wE G (.chn o o' a b c) env (fun d env1 => P.rt d (frE G.tb (.chn o o' a b c)) env1) P.ex := rfl
theorem pk_isn {a : E} {f : Wf} {Q : Op → Loca → Prop} {X : Exn → Loca → Prop} : pk (.isn a) f env Q X = f env (fun d env' => Q (.dat d) env') X := rfl
theorem rt_isn {a : E} {P : Po} : wRet G (.isn a) env P = wE G (.isn a) env (fun d env1 => P.rt d (frE G.tb (.isn a)) env1) P.ex := rfl
theorem pk_ntn {a : E} {f : Wf} {Q : Op → Loca → Prop} {X : Exn → Loca → Prop} : pk (.ntn a) f env Q X = f env (fun d env' => Q (.dat d) env') X := rfl
theorem rt_ntn {a : E} {P : Po} : wRet G (.ntn a) env P = wE G (.ntn a) env (fun d env1 => P.rt d (frE G.tb (.ntn a)) env1) P.ex := rfl
theorem pk_and {es : E} {f : Wf} {Q : Op → Loca → Prop} {X : Exn → Loca → Prop} : pk (.and es) f env Q X = f env (fun d env' => Q (.dat d) env') X := rfl
theorem rt_and {es : E} {P : Po} : wRet G (.and es) env P = wE G (.and es) env (fun d env1 => P.rt d (frE G.tb (.and es)) env1) P.ex := rfl
theorem pk_or {es : E} {f : Wf} {Q : Op → Loca → Prop} {X : Exn → Loca → Prop} : pk (.or es) f env Q X = f env (fun d env' => Q (.dat d) env') X := rfl
theorem rt_or {es : E} {P : Po} : wRet G (.or es) env P = wE G (.or es) env (fun d env1 => P.rt d (frE G.tb (.or es)) env1) P.ex := rfl
theorem pk_ite {c a b : E} {f : Wf} {Q : Op → Loca → Prop} {X : Exn → Loca → Prop} : pk (.ite c a b) f env Q X = f env (fun d env' => Q (.dat d) env') X := rfl
theorem rt_ite {c a b : E} {P : Po} : wRet G (.ite c a b) env P = wE G (.ite c a b) env (fun d env1 => P.rt d (frE G.tb (.ite c a b)) env1) P.ex := rfl
theorem pk_tup {es : E} {f : Wf} {Q : Op → Loca → Prop} {X : Exn → Loca → Prop} : pk (.tup es) f env Q X = f env (fun d env' => Q (.dat d) env') X := rfl
theorem rt_tup {es : E} {P : Po} : wRet G (.tup es) env P = wE G (.tup es) env (fun d env1 => P.rt d (frE G.tb (.tup es)) env1) P.ex := rfl
theorem pk_lst {es : E} {f : Wf} {Q : Op → Loca → Prop} {X : Exn → Loca → Prop} : pk (.lst es) f env Q X = f env (fun d env' => Q (.dat d) env') X := rfl
theorem rt_lst {es : E} {P : Po} : wRet G (.lst es) env P = wE G (.lst es) env (fun d env1 => P.rt d (frE G.tb (.lst es)) env1) P.ex := rfl
theorem pk_call {n : Nat} {es : E} {f : Wf} {Q : Op → Loca → Prop} {X : Exn → Loca → Prop} : pk (.call n es) f env Q X = f env (fun d env' => Q (.dat d) env') X := rfl
theorem rt_call {n : Nat} {es : E} {P : Po} : wRet G (.call n es) env P = wE G (.call n es) env (fun d env1 => P.rt d (frE G.tb (.call n es)) env1) P.ex := rfl
theorem pk_cio {n i : Nat} {es : E} {f : Wf} {Q : Op → Loca → Prop} {X : Exn → Loca → Prop} : pk (.cio n i es) f env Q X = f env (fun d env' => Q (.dat d) env') X := rfl
theorem rt_cio {n i : Nat} {es : E} {P : Po} : wRet G (.cio n i es) env P = wE G (.cio n i es) env (fun d env1 => P.rt d (frE G.tb (.cio n i es)) env1) P.ex := rfl
theorem pk_clv {i : Nat} {es : E} {f : Wf} {Q : Op → Loca → Prop} {X : Exn → Loca → Prop} : pk (.clv i es) f env Q X = f env (fun d env' => Q (.dat d) env') X := rfl
theorem rt_clv {i : Nat} {es : E} {P : Po} : wRet G (.clv i es) env P = wE G (.clv i es) env (fun d env1 => P.rt d (frE G.tb (.clv i es)) env1) P.ex := rfl
theorem pk_blt {fb : BF} {es : E} {f : Wf} {Q : Op → Loca → Prop} {X : Exn → Loca → Prop} : pk (.blt fb es) f env Q X = f env (fun d env' => Q (.dat d) env') X := rfl
theorem rt_blt {f : BF} {es : E} {P : Po} : wRet G (.blt f es) env P = wE G (.blt f es) env (fun d env1 => P.rt d (frE G.tb (.blt f es)) env1) P.ex := rfl
theorem pk_isi {a : E} {T : TyN} {f : Wf} {Q : Op → Loca → Prop} {X : Exn → Loca → Prop} : pk (.isi a T) f env Q X = f env (fun d env' => Q (.dat d) env') X := rfl
theorem rt_isi {a : E} {T : TyN} {P : Po} : wRet G (.isi a T) env P = wE G (.isi a T) env (fun d env1 => P.rt d (frE G.tb (.isi a T)) env1) P.ex := rfl
theorem pk_ix {a b : E} {f : Wf} {Q : Op → Loca → Prop} {X : Exn → Loca → Prop} : pk (.ix a b) f env Q X = f env (fun d env' => Q (.dat d) env') X := rfl
theorem rt_ix {a b : E} {P : Po} : wRet G (.ix a b) env P = wE G (.ix a b) env (fun d env1 => P.rt d (frE G.tb (.ix a b)) env1) P.ex := rfl
theorem pk_slc {a lo hi : E} {f : Wf} {Q : Op → Loca → Prop} {X : Exn → Loca → Prop} : pk (.slc a lo hi) f env Q X = f env (fun d env' => Q (.dat d) env') X := rfl
theorem rt_slc {a lo hi : E} {P : Po} : wRet G (.slc a lo hi) env P = wE G (.slc a lo hi) env (fun d env1 => P.rt d (frE G.tb (.slc a lo hi)) env1) P.ex := rfl
theorem pk_rev {a : E} {f : Wf} {Q : Op → Loca → Prop} {X : Exn → Loca → Prop} : pk (.rev a) f env Q X = f env (fun d env' => Q (.dat d) env') X := rfl
theorem rt_rev {a : E} {P : Po} : wRet G (.rev a) env P = wE G (.rev a) env (fun d env1 => P.rt d (frE G.tb (.rev a)) env1) P.ex := rfl
theorem pk_lrng {es : E} {f : Wf} {Q : Op → Loca → Prop} {X : Exn → Loca → Prop} : pk (.lrng es) f env Q X = f env (fun d env' => Q (.dat d) env') X := rfl
theorem rt_lrng {es : E} {P : Po} : wRet G (.lrng es) env P = wE G (.lrng es) env (fun d env1 => P.rt d (frE G.tb (.lrng es)) env1) P.ex := rfl
theorem pk_lc {is : List Nat} {tp : Bool} {it c elt : E} {f : Wf} {Q : Op → Loca → Prop} {X : Exn → Loca → Prop} : pk (.lc is tp it c elt) f env Q X = f env (fun d env' => Q (.dat d) env') X := rfl
theorem rt_lc {is : List Nat} {tp : Bool} {it c elt : E} {P : Po} : wRet G (.lc is tp it c elt) env P = wE G (.lc is tp it c elt) env (fun d env1 => P.rt d (frE G.tb (.lc is tp it c elt)) env1) P.ex := rfl
theorem pk_met {m : MF} {o es : E} {f : Wf} {Q : Op → Loca → Prop} {X : Exn → Loca → Prop} : pk (.met m o es) f env Q X = f env (fun d env' => Q (.dat d) env') X := rfl
theorem rt_met {m : MF} {o es : E} {P : Po} : wRet G (.met m o es) env P = wE G (.met m o es) env (fun d env1 => P.rt d (frE G.tb (.met m o es)) env1) P.ex := rfl
end
/-! ### comparisons of rows -/
section
variable {d e : D} {xs ys : List D} {kb : Bool → Prop} {i j : Int} {b c : Bool} {x y : Str}
theorem cmp_tt : wCmp .eq (.tup xs) (.tup ys) kb = (EqOk (.tup xs) ∧ EqOk (.tup ys) ∧ kb (eqDs xs ys)) := propext ⟨fun ⟨h, k⟩ => by
    rcases h with h | h
    · cases h.1
    · exact ⟨h.1, h.2, k⟩, fun h => ⟨.inr ⟨h.1, h.2.1⟩, h.2.2⟩⟩
theorem cmn_tt : wCmp .ne (.tup xs) (.tup ys) kb = (EqOk (.tup xs) ∧ EqOk (.tup ys) ∧ kb (!eqDs xs ys)) := propext ⟨fun ⟨h, k⟩ => by
    rcases h with h | h
    · cases h.1
    · exact ⟨h.1, h.2, k⟩, fun h => ⟨.inr ⟨h.1, h.2.1⟩, h.2.2⟩⟩
theorem cmp_ll : wCmp .eq (.lst xs) (.lst ys) kb = (EqOk (.lst xs) ∧ EqOk (.lst ys) ∧ kb (eqDs xs ys)) := propext ⟨fun ⟨h, k⟩ => by
    rcases h with h | h
    · cases h.1
    · exact ⟨h.1, h.2, k⟩, fun h => ⟨.inr ⟨h.1, h.2.1⟩, h.2.2⟩⟩
theorem cmn_ll : wCmp .ne (.lst xs) (.lst ys) kb = (EqOk (.lst xs) ∧ EqOk (.lst ys) ∧ kb (!eqDs xs ys)) := propext ⟨fun ⟨h, k⟩ => by
    rcases h with h | h
    · cases h.1
    · exact ⟨h.1, h.2, k⟩, fun h => ⟨.inr ⟨h.1, h.2.1⟩, h.2.2⟩⟩
def InOk (d : D) (ds : List D) : Prop := (sclD d = true ∧ ds.all sclD = true) ∨ (okD d = true ∧ depD d ≤ 62 ∧ okDs ds = true)
theorem cmp_in : wCmp .in_ d e kb = (∃ ds, seqD e = some ds ∧ InOk d ds ∧ kb (ds.any fun y => eqD y d)) := rfl
theorem cmp_nin : wCmp .nin d e kb = (∃ ds, seqD e = some ds ∧ InOk d ds ∧ kb (!ds.any fun y => eqD y d)) := rfl
theorem inok_i {ns : List Int} : InOk (.int i) (ns.map D.int) = True := eq_true (.inl ⟨rfl, by rw [List.all_map]; exact List.all_eq_true.mpr fun _ _ => rfl⟩)
theorem inok_int : InOk (.int i) xs = (xs.all sclD = true ∨ okDs xs = true) := propext ⟨fun h => h.elim (fun h => .inl h.2) fun h => .inr h.2.2, fun h => h.elim (fun h => .inl ⟨rfl, h⟩) fun h => .inr ⟨rfl, by show 0 ≤ 62; decide, h⟩⟩
theorem inok_str : InOk (.str x) xs = (xs.all sclD = true ∨ (PyData.strOk x = true ∧ okDs xs = true)) := propext ⟨fun h => h.elim (fun h => .inl h.2) fun h => .inr ⟨h.1, h.2.2⟩, fun h => h.elim (fun h => .inl ⟨rfl, h⟩) fun h => .inr ⟨h.1, by show 0 ≤ 62; decide, h.2⟩⟩
theorem inok_tup {ys : List D} : InOk (.tup ys) xs = (okDs ys = true ∧ depDs ys ≤ 61 ∧ okDs xs = true) := propext ⟨fun h => h.elim (fun h => by cases h.1) fun h => ⟨h.1, Nat.le_of_succ_le_succ h.2.1, h.2.2⟩, fun h => .inr ⟨h.1, Nat.succ_le_succ h.2.1, h.2.2⟩⟩
theorem any_ints {ns : List Int} : ((ns.map D.int).any fun y => eqD y (.int i)) = ns.contains i := by
  induction ns with
  | nil => rfl
  | cons n ns ih =>
    rw [List.map_cons, List.any_cons, ih, List.contains_cons]
    show (n == i || _) = _
    by_cases h : n = i
    · simp [h]
    · have h2 : i ≠ n := fun e => h e.symm
      rw [show (n == i) = (i == n) from by rw [Bool.eq_iff_iff, beq_iff_eq, beq_iff_eq]; exact eq_comm]
theorem scl_int : sclD (.int i) = true := rfl
theorem scl_str : sclD (.str x) = true := rfl
theorem scl_bl : sclD (.bl b) = true := rfl
theorem scl_non : sclD .non = true := rfl
theorem okD_int : okD (.int i) = true := rfl
theorem okD_bl : okD (.bl b) = true := rfl
theorem okD_non : okD .non = true := rfl
theorem okD_str : okD (.str x) = PyData.strOk x := rfl
theorem okD_tup : okD (.tup xs) = okDs xs := rfl
theorem okD_lst : okD (.lst xs) = okDs xs := rfl
theorem okDs_nil : okDs [] = true := rfl
theorem okDs_cons : okDs (d :: xs) = (okD d && okDs xs) := rfl
theorem depD_int : depD (.int i) = 0 := rfl
theorem depD_bl : depD (.bl b) = 0 := rfl
theorem depD_non : depD .non = 0 := rfl
theorem depD_str : depD (.str x) = 0 := rfl
theorem depD_tup : depD (.tup xs) = depDs xs + 1 := rfl
theorem depD_lst : depD (.lst xs) = depDs xs + 1 := rfl
theorem depDs_nil : depDs [] = 0 := rfl
theorem depDs_cons : depDs (d :: xs) = max (depD d) (depDs xs) := rfl
theorem eqok_t : EqOk (.tup xs) = (okDs xs = true ∧ depDs xs ≤ 63) := propext ⟨fun h => ⟨h.1, Nat.le_of_succ_le_succ h.2⟩, fun h => ⟨h.1, Nat.succ_le_succ h.2⟩⟩
theorem eqok_l : EqOk (.lst xs) = (okDs xs = true ∧ depDs xs ≤ 63) := propext ⟨fun h => ⟨h.1, Nat.le_of_succ_le_succ h.2⟩, fun h => ⟨h.1, Nat.succ_le_succ h.2⟩⟩
theorem okDs_ints : ∀ ns : List Int, okDs (ns.map D.int) = true
  | [] => rfl
  | _ :: ns => okDs_ints ns
theorem depDs_ints : ∀ ns : List Int, depDs (ns.map D.int) = 0
  | [] => rfl
  | n :: ns => by
    show max 0 (depDs (ns.map D.int)) = 0
    rw [depDs_ints ns]
    rfl
theorem eqok_ti {ns : List Int} : EqOk (.tup (ns.map D.int)) = True := eq_true (by
  rw [eqok_t, okDs_ints, depDs_ints]
  exact ⟨rfl, by decide⟩)
theorem eqok_li {ns : List Int} : EqOk (.lst (ns.map D.int)) = True := eq_true (by
  rw [eqok_l, okDs_ints, depDs_ints]
  exact ⟨rfl, by decide⟩)
theorem eq_int : eqD (.int i) (.int j) = (i == j) := rfl
theorem eq_bl : eqD (.bl b) (.bl c) = (b == c) := rfl
theorem eq_str : eqD (.str x) (.str y) = (x == y) := rfl
theorem eq_non : eqD .non .non = true := rfl
theorem eq_tup : eqD (.tup xs) (.tup ys) = eqDs xs ys := rfl
theorem eq_lst : eqD (.lst xs) (.lst ys) = eqDs xs ys := rfl
theorem eqs_nil : eqDs [] [] = true := rfl
theorem eqs_cons : eqDs (d :: xs) (e :: ys) = (eqD d e && eqDs xs ys) := rfl
theorem eqs_nc : eqDs [] (e :: ys) = false := rfl
theorem eqs_cn : eqDs (d :: xs) [] = false := rfl
theorem eqs_ints : ∀ {ns ms : List Int}, eqDs (ns.map D.int) (ms.map D.int) = decide (ns = ms)
  | [], [] => rfl
  | [], _ :: _ => by simp [eqDs]
  | _ :: _, [] => by simp [eqDs]
  | n :: ns, m :: ms => by
    show (eqD (.int n) (.int m) && eqDs (ns.map D.int) (ms.map D.int)) = _
    rw [eqs_ints]
    by_cases h : n = m <;> by_cases h2 : ns = ms <;> simp [eqD, h, h2]
end
section
variable {G : Gx} {env : Loca} {P : Po} {r : S} {e : E}
def rxK (k : EK) (d : D) (env : Loca) (P : Po) : Prop := match k, d with
  | .ref, .str r => P.ex (.ref r) env
  | .nt, .int i => P.ex (.nt i) env
  | _, _ => False
theorem blt_maxl {xs : List D} {k : D → Prop} : wBlt .max [.lst xs] k = (∃ ns, intsD xs = some ns ∧ 0 < ns.length ∧ ∀ m, m ∈ ns → (∀ y ∈ ns, y ≤ m) → k (.int m)) := rfl
theorem blt_minl {xs : List D} {k : D → Prop} : wBlt .min [.lst xs] k = (∃ ns, intsD xs = some ns ∧ 0 < ns.length ∧ ∀ m, m ∈ ns → (∀ y ∈ ns, m ≤ y) → k (.int m)) := rfl
theorem st_rexc {k : EK} : wS G (.seq (.rexc k e) r) env P = wE G e env (fun d env1 => rxK k d env1 P) P.ex := by cases k <;> rfl
theorem rx_ref {s : Str} : rxK .ref (.str s) env P = P.ex (.ref s) env := rfl
theorem rx_nt {i : Int} : rxK .nt (.int i) env P = P.ex (.nt i) env := rfl
end
/-- what stands behind the first k statements -/
def dropS : Nat → S → S
  | 0, s => s
  | k + 1, .seq _ r => dropS k r
  | _, s => s
/-! ### branches -/
def br (t : Bool) (A B : Prop) : Prop := match t with
  | true => A
  | false => B
theorem br_t {A B : Prop} : br true A B = A := rfl
theorem br_f {A B : Prop} : br false A B = B := rfl
theorem br_not {t : Bool} {A B : Prop} : br (!t) A B = br t B A := by cases t <;> rfl
theorem br_dec {p : Prop} {_ : Decidable p} {A B : Prop} : br (decide p) A B = ((p → A) ∧ (¬ p → B)) := propext (by
  by_cases h : p
  · rw [decide_eq_true h]
    exact ⟨fun k => ⟨fun _ => k, fun z => absurd h z⟩, fun k => k.1 h⟩
  · rw [decide_eq_false h]
    exact ⟨fun k => ⟨fun z => absurd z h, fun _ => k⟩, fun k => k.2 h⟩)
theorem br_and {a b : Bool} {A B : Prop} : br (a && b) A B = ((a = true ∧ b = true → A) ∧ (¬ (a = true ∧ b = true) → B)) := by cases a <;> cases b <;> simp [br]
theorem br_or {a b : Bool} {A B : Prop} : br (a || b) A B = ((a = true ∨ b = true → A) ∧ (¬ (a = true ∨ b = true) → B)) := by cases a <;> cases b <;> simp [br]
theorem br_beq {α : Type} [BEq α] [LawfulBEq α] {a b : α} {A B : Prop} : br (a == b) A B = ((a = b → A) ∧ (¬ a = b → B)) := propext (by
  by_cases h : a = b
  · rw [beq_iff_eq.mpr h]
    exact ⟨fun k => ⟨fun _ => k, fun z => absurd h z⟩, fun k => k.1 h⟩
  · rw [show (a == b) = false by simpa using h]
    exact ⟨fun k => ⟨fun z => absurd z h, fun _ => k⟩, fun k => k.2 h⟩)
theorem br_same {t : Bool} {A : Prop} : br t A A = A := by cases t <;> rfl
theorem br_if {t : Bool} {A B : Prop} : (if t = true then A else B) = br t A B := by cases t <;> simp [br]
theorem br2 {t : Bool} {A B : Prop} (h1 : t = true → A) (h2 : t = false → B) : br t A B := by
  cases t
  · exact h2 rfl
  · exact h1 rfl
theorem brT {t : Bool} {A B : Prop} (h : t = true) (h1 : A) : br t A B := by rw [h]; exact h1
theorem brF {t : Bool} {A B : Prop} (h : t = false) (h1 : B) : br t A B := by rw [h]; exact h1
theorem br_mono {t : Bool} {A B A' B' : Prop} (h1 : A → A') (h2 : B → B') : br t A B → br t A' B' := by
  cases t
  · exact h2
  · exact h1
def bb (d : D) (k : Bool → Prop) : Prop := match d with
  | .bl b => k b
  | _ => False
theorem bb_bl {b : Bool} {k : Bool → Prop} : bb (.bl b) k = k b := rfl
section
variable {G : Gx} {env : Loca} {P : Po} {r a b : S} {c e e' es : E} {X : Exn → Loca → Prop}
theorem so_ife : wS G (.seq (.ife c a b) r) env P = wT G c env (fun t env1 => br t (wS G a env1 ⟨fun env1 => wS G r env1 P, P.rt, P.bk, P.ct, P.ex⟩) (wS G b env1 ⟨fun env1 => wS G r env1 P, P.rt, P.bk, P.ct, P.ex⟩)) P.ex := by
  rw [st_ife]
  simp only [br_if]
theorem so_ifn : wS G (.seq (.ife c a b) r) env P = wT G c env (fun t env1 => br t (wS G a env1 ⟨fun env1 => wN G r env1 P, P.rt, P.bk, P.ct, P.ex⟩) (wS G b env1 ⟨fun env1 => wN G r env1 P, P.rt, P.bk, P.ct, P.ex⟩)) P.ex := by
  rw [st_ife]
  simp only [br_if]
  try rfl
theorem eo_ite {a b : E} {Q : D → Loca → Prop} : wE G (.ite c a b) env Q X = wT G c env (fun t env1 => br t (wE G a env1 Q X) (wE G b env1 Q X)) X := by
  rw [e_ite]
  simp only [br_if]
theorem eo_chn {o o' : CO} {a b : E} {Q : D → Loca → Prop} : wE G (.chn o o' a b c) env Q X = wE G a env (fun x env1 => wE G b env1 (fun y env2 => wCmp o x y fun r => br r (wE G c env2 (fun z env3 => wCmp o' y z fun r' => Q (.bl r') env3) X) (Q (.bl false) env2)) X) X := by
  rw [e_chn]
  simp only [br_if]
theorem eo_not {a : E} {Q : D → Loca → Prop} : wE G (.not a) env Q X = wE G a env (fun d env1 => bb d fun b => Q (.bl (!b)) env1) X := by
  rw [e_not]
  congr 1
theorem and_1 {Q : D → Loca → Prop} : wAnd G (.cons e .nil) env Q X = wE G e env Q X := by simp only [wAnd]
theorem and_2 {Q : D → Loca → Prop} : wAnd G (.cons e (.cons e' es)) env Q X = wE G e env (fun d env1 => bb d fun b => br b (wAnd G (.cons e' es) env1 Q X) (Q (.bl false) env1)) X := by
  rw [wAnd]
  · congr 1
    funext d env1
    cases d <;> first | rfl | (simp only [bb, br_if])
  · intro z
    cases z
theorem or_1 {Q : D → Loca → Prop} : wOr G (.cons e .nil) env Q X = wE G e env Q X := by simp only [wOr]
theorem or_2 {Q : D → Loca → Prop} : wOr G (.cons e (.cons e' es)) env Q X = wE G e env (fun d env1 => bb d fun b => br b (Q (.bl true) env1) (wOr G (.cons e' es) env1 Q X)) X := by
  rw [wOr]
  · congr 1
    funext d env1
    cases d <;> first | rfl | (simp only [bb, br_if])
  · intro z
    cases z
theorem ta_n {Q : Bool → Loca → Prop} : wTA G .nil env Q X = Q true env := by simp only [wTA]
theorem ta_c {Q : Bool → Loca → Prop} : wTA G (.cons e es) env Q X = wT G e env (fun b env1 => br b (wTA G es env1 Q X) (Q false env1)) X := by
  rw [wTA]
  simp only [br_if]
theorem to_n {Q : Bool → Loca → Prop} : wTO G .nil env Q X = Q false env := by simp only [wTO]
theorem to_c {Q : Bool → Loca → Prop} : wTO G (.cons e es) env Q X = wT G e env (fun b env1 => br b (Q true env1) (wTO G es env1 Q X)) X := by
  rw [wTO]
  simp only [br_if]
/-- while, with branches -/
theorem whl_ru {b : S} (I : Nat → Loca → Prop) (h0 : ∃ n env', Weak G.iop env env' ∧ I n env')
    (step : ∀ n env, I n env → wT G c env (fun t env1 => br t (wS G b env1 ⟨fun env' => ∃ env'' m, Weak G.iop env' env'' ∧ m < n ∧ I m env'', P.rt, fun env1 => wS G r env1 P, fun env' => ∃ env'' m, Weak G.iop env' env'' ∧ m < n ∧ I m env'', P.ex⟩) (wS G r env1 P)) P.ex) :
    wS G (.seq (.whl c b) r) env P := by
  refine whl_rule I h0 fun n env h => ?_
  simp only [br_if]
  exact step n env h
end
namespace M
section
variable {d e : D} {lo hi a b m i : Int} {P : D → D → Prop} {X : Exn → Prop} {xs ys : List D} {n : Nat} {spv : Nat → Spec} {x : Str} {c : Bool}
theorem isint_eq : isint [d] P X = (hasTy d = true ∧ P (.bl (isI d)) .non) := propext ⟨fun ⟨_, e, h⟩ => by cases e; exact h, fun h => ⟨_, rfl, h⟩⟩
theorem iscnt_eq : iscnt [d, .int lo, .int hi] P X = (hasTy d = true ∧ P (.bl (cnt d lo hi)) .non) := propext ⟨fun ⟨_, _, _, e, h⟩ => by cases e; exact h, fun h => ⟨_, _, _, rfl, h⟩⟩
theorem chkcnt_eq : chkcnt [d, .int lo, .int hi] P X = (hasTy d = true ∧ br (cnt d lo hi) (P .non .non) (X .mal)) := (propext (show chkcnt [d, .int lo, .int hi] P X ↔ (hasTy d = true ∧ if cnt d lo hi = true then P .non .non else X .mal) from  ⟨fun ⟨_, _, _, e, h1, h2, h3⟩ => by
    cases e
    refine ⟨h1, ?_⟩
    split
    · exact h2 (by assumption)
    · rename_i q
      exact h3 (by simpa using q), fun ⟨h1, h⟩ => by
    refine ⟨_, _, _, rfl, h1, fun k => ?_, fun k => ?_⟩
    · rwa [if_pos k] at h
    · rwa [if_neg (by simp [k])] at h⟩)).trans (by rw [br_if])
theorem isrow_eq : isrow [d] P X = (rowOk d ∧ P (.bl (isRow d)) .non) := propext ⟨fun ⟨_, e, h⟩ => by cases e; exact h, fun h => ⟨_, rfl, h⟩⟩
theorem isword_eq : isword [d] P X = (rowOk d ∧ P (.bl (isWord d)) .non) := propext ⟨fun ⟨_, e, h⟩ => by cases e; exact h, fun h => ⟨_, rfl, h⟩⟩
theorem state_eq {ns : List Int} : state [.frz (ns.map D.int)] P X = ∀ a b : Int, P (.lst [.int a, .int b]) .non := propext ⟨fun ⟨_, _, h⟩ => h, fun h => ⟨_, rfl, h⟩⟩
theorem take_eq : take [.lst [.int a, .int b], .int m] P X = (0 < m ∧ m < 1073741824 ∧ ∀ v a' b' : Int, 0 ≤ v → v < m → P (.int v) (.lst [.int a', .int b'])) := propext ⟨fun ⟨_, _, _, e, h⟩ => by cases e; exact h, fun h => ⟨_, _, _, rfl, h⟩⟩
theorem great_eq : great [.lst [.int a, .int b]] P X = ∀ v a' b' : Int, 0 ≤ v → v < 100000000000000000000000000 → P (.int v) (.lst [.int a', .int b']) := propext ⟨fun ⟨_, _, e, h⟩ => h, fun h => ⟨_, _, rfl, h⟩⟩
theorem says_eq : says [d, .bl c] P X = (hasTy d = true ∧ P (.bl (saysD d c)) .non) := propext ⟨fun ⟨_, _, e, h⟩ => by cases e; exact h, fun h => ⟨_, _, rfl, h⟩⟩
theorem same_eq : same n [d, e] P X = (Seen d ∧ Due n e ∧ P (.bl (sameD d e)) .non) := propext ⟨fun ⟨_, _, e, h⟩ => by cases e; exact h, fun h => ⟨_, _, rfl, h⟩⟩
theorem told_eq : told spv [.fn n, .tup xs] P X = (1 ≤ xs.length ∧ xs.length ≤ 5 ∧ spv n xs (fun d _ => P (.tup [.str "told", d]) .non) (toldX P X)) := propext ⟨fun ⟨_, _, e, h⟩ => by cases e; exact h, fun h => ⟨_, _, rfl, h⟩⟩
/-- what is tried is malformed -/
def badD (spv : Nat → Spec) : D → Prop
  | .tup [.fn n, .tup as] => 1 ≤ as.length ∧ as.length ≤ 5 ∧ spv n as (fun _ _ => False) (fun e => e = .mal)
  | _ => False
theorem badD_eq : badD spv (.tup [.fn n, .tup xs]) = (1 ≤ xs.length ∧ xs.length ≤ 5 ∧ spv n xs (fun _ _ => False) (fun e => e = .mal)) := rfl
theorem badD_all : ∀ xs : List D, (∀ x ∈ xs, badD spv x) → ∃ its : List (Nat × List D), xs = its.map tried ∧ ∀ p ∈ its, bad spv p
  | [], _ => ⟨[], rfl, fun p h => by cases h⟩
  | x :: xs, h => by
    obtain ⟨its, rfl, h2⟩ := badD_all xs fun y hy => h y (List.mem_cons_of_mem _ hy)
    have hx := h x List.mem_cons_self
    unfold badD at hx
    split at hx
    · rename_i n as
      exact ⟨(n, as) :: its, rfl, fun p hp => by
        rcases List.mem_cons.mp hp with rfl | hp
        · exact hx
        · exact h2 p hp⟩
    · exact hx.elim
theorem allmal_eq : allmal spv [.lst xs] P X = (xs.length ≤ sizeLine ∧ (∀ x ∈ xs, badD spv x) ∧ P (.bl true) .non) := propext ⟨fun ⟨its, e, h1, h2, h3⟩ => by
    cases e
    refine ⟨by rw [List.length_map]; exact h1, fun x hx => ?_, h3⟩
    obtain ⟨p, hp, rfl⟩ := List.mem_map.mp hx
    exact h2 p hp, fun ⟨h1, h2, h3⟩ => by
    obtain ⟨its, rfl, h4⟩ := badD_all xs h2
    exact ⟨its, rfl, by rw [List.length_map] at h1; exact h1, h4, h3⟩⟩
theorem ints_mapf {α : Type} {f : α → Int} : ∀ xs : List α, intsD (xs.map fun x => D.int (f x)) = some (xs.map f)
  | [] => rfl
  | x :: xs => by
    show (intsD (xs.map fun x => D.int (f x))).map (f x :: ·) = _
    rw [ints_mapf xs]
    rfl
theorem bls_mapf {α : Type} {f : α → Bool} : ∀ xs : List α, blsD (xs.map fun x => D.bl (f x)) = some (xs.map f)
  | [] => rfl
  | x :: xs => by
    show (blsD (xs.map fun x => D.bl (f x))).map (f x :: ·) = _
    rw [bls_mapf xs]
    rfl
theorem any_id {α : Type} {g : α → Bool} (xs : List α) : (xs.map g).any id = xs.any g := by
  induction xs with
  | nil => rfl
  | cons x xs ih => simp
theorem all_id {α : Type} {g : α → Bool} (xs : List α) : (xs.map g).all id = xs.all g := by
  induction xs with
  | nil => rfl
  | cons x xs ih => simp
theorem toldX_mal : toldX P X .mal = P (.tup [.str "malformed", .non]) .non := rfl
theorem toldX_ref {r : Str} : toldX P X (.ref r) = P (.tup [.str "refused", .str r]) .non := rfl
theorem isI_int : isI (.int i) = true := rfl
theorem isI_bl : isI (.bl c) = false := rfl
theorem isI_non : isI .non = false := rfl
theorem isI_str : isI (.str x) = false := rfl
theorem isI_tup : isI (.tup xs) = false := rfl
theorem isI_lst : isI (.lst xs) = false := rfl
theorem cnt_i : cnt (.int i) lo hi = (decide (lo ≤ i) && decide (i ≤ hi)) := rfl
theorem cnt_bl : cnt (.bl c) lo hi = false := rfl
theorem cnt_non : cnt .non lo hi = false := rfl
theorem cnt_str : cnt (.str x) lo hi = false := rfl
theorem cnt_tup : cnt (.tup xs) lo hi = false := rfl
theorem cnt_lst : cnt (.lst xs) lo hi = false := rfl
theorem says_bl {b : Bool} : saysD (.bl b) c = (b == c) := rfl
theorem says_int : saysD (.int i) c = false := rfl
theorem says_non : saysD .non c = false := rfl
theorem isRow_tup : isRow (.tup xs) = xs.all isI := rfl
theorem isRow_ints : ∀ ns : List Int, isRow (.tup (ns.map D.int)) = true
  | [] => rfl
  | n :: ns => isRow_ints ns
theorem isRow_int : isRow (.int i) = false := rfl
theorem isRow_bl : isRow (.bl c) = false := rfl
theorem isRow_non : isRow .non = false := rfl
theorem isRow_str : isRow (.str x) = false := rfl
theorem isRow_lst : isRow (.lst xs) = false := rfl
theorem rowOk_int : rowOk (.int i) := ⟨rfl, fun _ e => by cases e⟩
theorem rowOk_bl : rowOk (.bl c) := ⟨rfl, fun _ e => by cases e⟩
theorem rowOk_non : rowOk .non := ⟨rfl, fun _ e => by cases e⟩
theorem rowOk_str : rowOk (.str x) := ⟨rfl, fun _ e => by cases e⟩
theorem rowOk_lst : rowOk (.lst xs) := ⟨rfl, fun _ e => by cases e⟩
theorem rowOk_tup : rowOk (.tup xs) = (xs.length ≤ sizeLine ∧ ∀ x ∈ xs, hasTy x = true) := propext ⟨fun h => h.2 _ rfl, fun h => ⟨rfl, fun _ e => by cases e; exact h⟩⟩
theorem ht_ints {ns : List Int} : (∀ x ∈ ns.map D.int, hasTy x = true) = True := eq_true fun x h => by
  obtain ⟨i, _, rfl⟩ := List.mem_map.mp h
  rfl
theorem rowOk_ints {ns : List Int} : rowOk (.tup (ns.map D.int)) = (ns.length ≤ sizeLine) := by
  rw [rowOk_tup, ht_ints, and_true, List.length_map]
theorem isWord_ints {ns : List Int} : isWord (.tup (ns.map D.int)) = wordL ns := by
  show (match intsD (ns.map D.int) with | some ns => wordL ns | none => false) = _
  rw [ints_map]
theorem seen_int : Seen (.int i) = True := eq_true (.int _)
theorem seen_bl : Seen (.bl c) = True := eq_true (.bl _)
theorem seen_str : Seen (.str x) = True := eq_true (.str _)
theorem seen_non : Seen .non = True := eq_true .non
theorem seen_lst : Seen (.lst xs) = True := eq_true (.lst _)
theorem seen_tup : Seen (.tup xs) = ∀ x ∈ xs, Seen x := propext ⟨fun h => by cases h; assumption, .tup⟩
theorem seen_ints {ns : List Int} : Seen (.tup (ns.map D.int)) = True := eq_true (.tup fun x h => by
  obtain ⟨i, _, rfl⟩ := List.mem_map.mp h
  exact .int _)
theorem due_int : Due n (.int i) = True := eq_true (.int _ _)
theorem due_bl : Due n (.bl c) = True := eq_true (.bl _ _)
theorem due_str : Due n (.str x) = True := eq_true (.str _ _)
theorem due_non : Due n .non = True := eq_true (.non _)
theorem due_tup' : Due (n + 1) (.tup xs) = (xs.length ≤ sizeLine ∧ ∀ x ∈ xs, Due n x) := propext ⟨fun h => by cases h; exact ⟨by assumption, by assumption⟩, fun h => .tup h.1 h.2⟩
theorem due_lst' : Due (n + 1) (.lst xs) = Due n (.tup xs) := propext ⟨fun h => by cases h; assumption, .lst⟩
theorem due_t1 : Due 1 (.tup xs) = (xs.length ≤ sizeLine ∧ ∀ x ∈ xs, Due 0 x) := due_tup'
theorem due_t2 : Due 2 (.tup xs) = (xs.length ≤ sizeLine ∧ ∀ x ∈ xs, Due 1 x) := due_tup'
theorem due_t3 : Due 3 (.tup xs) = (xs.length ≤ sizeLine ∧ ∀ x ∈ xs, Due 2 x) := due_tup'
theorem due_t4 : Due 4 (.tup xs) = (xs.length ≤ sizeLine ∧ ∀ x ∈ xs, Due 3 x) := due_tup'
theorem due_t5 : Due 5 (.tup xs) = (xs.length ≤ sizeLine ∧ ∀ x ∈ xs, Due 4 x) := due_tup'
theorem due_t6 : Due 6 (.tup xs) = (xs.length ≤ sizeLine ∧ ∀ x ∈ xs, Due 5 x) := due_tup'
theorem due_l2 : Due 2 (.lst xs) = Due 1 (.tup xs) := due_lst'
theorem due_l3 : Due 3 (.lst xs) = Due 2 (.tup xs) := due_lst'
theorem due_l4 : Due 4 (.lst xs) = Due 3 (.tup xs) := due_lst'
theorem due_l5 : Due 5 (.lst xs) = Due 4 (.tup xs) := due_lst'
theorem due_l6 : Due 6 (.lst xs) = Due 5 (.tup xs) := due_lst'
theorem due_ints {ns : List Int} (h : ns.length ≤ sizeLine) : Due (n + 1) (.tup (ns.map D.int)) := .tup (by rw [List.length_map]; exact h) fun x h => by
  obtain ⟨i, _, rfl⟩ := List.mem_map.mp h
  exact .int _ _
theorem same_int : sameD (.int a) (.int b) = (a == b) := rfl
theorem same_bl {b : Bool} : sameD (.bl c) (.bl b) = (c == b) := rfl
theorem same_str {y : Str} : sameD (.str x) (.str y) = (x == y) := rfl
theorem same_non : sameD .non .non = true := rfl
theorem same_tup : sameD (.tup xs) (.tup ys) = sameDs xs ys := rfl
theorem same_tlst : sameD (.tup xs) (.lst ys) = sameDs xs ys := rfl
theorem sames_nil : sameDs [] [] = true := rfl
theorem sames_cons : sameDs (d :: xs) (e :: ys) = (sameD d e && sameDs xs ys) := rfl
/-! no lists in it -/
mutual
inductive Flat : D → Prop
  | int (i : Int) : Flat (.int i)
  | bl (b : Bool) : Flat (.bl b)
  | str (x : Str) : Flat (.str x)
  | non : Flat .non
  | tup {xs : List D} : Flats xs → Flat (.tup xs)
inductive Flats : List D → Prop
  | nil : Flats []
  | cons {x : D} {xs : List D} : Flat x → Flats xs → Flats (x :: xs)
end
mutual
theorem Flat.same : ∀ {d : D}, Flat d → sameD d d = true
  | _, .int i => by simp [sameD]
  | _, .bl i => by simp [sameD]
  | _, .str i => by simp [sameD]
  | _, .non => rfl
  | _, .tup h => Flats.same h
theorem Flats.same : ∀ {ds : List D}, Flats ds → sameDs ds ds = true
  | _, .nil => rfl
  | _, .cons h t => by
    show (sameD _ _ && sameDs _ _) = true
    rw [Flat.same h, Flats.same t]
    rfl
end
mutual
theorem Flat.seen : ∀ {d : D}, Flat d → Seen d
  | _, .int i => .int i
  | _, .bl i => .bl i
  | _, .str i => .str i
  | _, .non => .non
  | _, .tup h => .tup (Flats.seen h)
theorem Flats.seen : ∀ {ds : List D}, Flats ds → ∀ x ∈ ds, Seen x
  | _, .nil => fun _ h => by cases h
  | _, .cons h t => fun x hx =>
    have k := Flat.seen h
    have ks := Flats.seen t
    (List.mem_cons.mp hx).elim (fun e => by rw [e]; exact k) fun hx => ks x hx
end
theorem flats_of : ∀ {xs : List D}, (∀ x ∈ xs, Flat x) → Flats xs
  | [], _ => .nil
  | x :: xs, h => .cons (h x List.mem_cons_self) (flats_of fun y hy => h y (List.mem_cons_of_mem _ hy))
theorem flats_ints : ∀ ns : List Int, Flats (ns.map D.int)
  | [] => .nil
  | n :: ns => .cons (.int n) (flats_ints ns)
theorem same_ints {ns ms : List Int} : sameDs (ns.map D.int) (ms.map D.int) = decide (ns = ms) := by
  induction ns generalizing ms with
  | nil => cases ms <;> simp [sameDs]
  | cons n ns ih =>
    cases ms with
    | nil => simp [sameDs]
    | cons m ms =>
      show (sameD (.int n) (.int m) && sameDs (ns.map D.int) (ms.map D.int)) = _
      rw [ih]
      by_cases h : n = m <;> by_cases h2 : ns = ms <;> simp [sameD, h, h2]
section
variable {ds : List D} {P P' : D → D → Prop} {X X' : Exn → Prop} (h1 : ∀ d e, P d e → P' d e) (h2 : ∀ x, X x → X' x)
include h1 h2
theorem mono_is_integer (h : isint ds P X) : isint ds P' X' := let ⟨d, a, b, c⟩ := h; ⟨d, a, b, h1 _ _ c⟩
theorem mono_is_count (h : iscnt ds P X) : iscnt ds P' X' := let ⟨d, l, u, a, b, c⟩ := h; ⟨d, l, u, a, b, h1 _ _ c⟩
theorem mono_check_count (h : chkcnt ds P X) : chkcnt ds P' X' := let ⟨d, l, u, a, b, c, e⟩ := h; ⟨d, l, u, a, b, fun z => h1 _ _ (c z), fun z => h2 _ (e z)⟩
theorem mono_is_whole_row (h : isrow ds P X) : isrow ds P' X' := let ⟨d, a, b, c⟩ := h; ⟨d, a, b, h1 _ _ c⟩
theorem mono_is_word (h : isword ds P X) : isword ds P' X' := let ⟨d, a, b, c⟩ := h; ⟨d, a, b, h1 _ _ c⟩
end
end
end M
/-! ### loops, what stands behind kept closed -/
section
variable {G : Gx} {env : Loca} {P : Po} {is : List Nat} {tp : Bool} {b r : S}
theorem forS_ru {ds : List D} (I : Nat → Loca → Prop) (h0 : I 0 env)
    (step : ∀ i d env (nx : Loca → Prop), ds[i]? = some d → I i env → (∀ env', I (i + 1) env' → nx env') → wTgt is tp d env fun env3 => wS G b env3 ⟨nx, P.rt, fun env1 => wN G r env1 P, nx, P.ex⟩) (done : ∀ env, I ds.length env → wN G r env P) : forS G is tp b r ds env P :=
  list_rule I h0 (fun i d e nx hd h hn => step i d e nx hd h fun e' h' => hn e' e' (.refl _ _) h') done
theorem forR_ru {lo hi : Int} (I : Nat → Loca → Prop) (h0 : I 0 env)
    (step : ∀ (i : Nat) env (nx : Loca → Prop), i < (hi - lo).toNat → I i env → (∀ env', I (i + 1) env' → nx env') → wTgt is tp (.int (lo + i)) env fun env3 => wS G b env3 ⟨nx, P.rt, fun env1 => wN G r env1 P, nx, P.ex⟩) (done : ∀ env, I (hi - lo).toNat env → wN G r env P) :
    forS G is tp b r (rngD lo hi) env P := rng_rule I h0 (fun i e nx hd h hn => step i e nx hd h fun e' h' => hn e' e' (.refl _ _) h') done
theorem whl_rw {c : E} (I : Nat → Loca → Prop) (h0 : ∃ n env', Weak G.iop env env' ∧ I n env')
    (step : ∀ n env, I n env → wT G c env (fun t env1 => br t (wS G b env1 ⟨fun env' => ∃ env'' m, Weak G.iop env' env'' ∧ m < n ∧ I m env'', P.rt, fun env1 => wN G r env1 P, fun env' => ∃ env'' m, Weak G.iop env' env'' ∧ m < n ∧ I m env'', P.ex⟩) (wN G r env1 P)) P.ex) :
    wS G (.seq (.whl c b) r) env P := whl_ru I h0 step
end
theorem strOk_digits : PyData.strOk "digits" = true := by decide +kernel
theorem strOk_zero : PyData.strOk "zero" = true := by decide +kernel
theorem strOk_told : PyData.strOk "told" = true := by decide +kernel
theorem strOk_refused : PyData.strOk "refused" = true := by decide +kernel
theorem strOk_malformed : PyData.strOk "malformed" = true := by decide +kernel
theorem cut_dl {xs : List D} : cutD xs none (some (-1)) = xs.take (xs.length - 1) := by
  unfold cutD HT.sIx
  dsimp only
  rw [if_pos (by decide), List.drop_zero, Nat.sub_zero]
  congr 1
  omega
/-! ### of tests -/
theorem ifF {c : Prop} [Decidable c] {A B : Prop} (h1 : ¬ c) (h2 : B) : if c then A else B := by rw [if_neg h1]; exact h2
theorem ifT {c : Prop} [Decidable c] {A B : Prop} (h1 : c) (h2 : A) : if c then A else B := by rw [if_pos h1]; exact h2
theorem if2 {c : Prop} [Decidable c] {A B : Prop} (h1 : c → A) (h2 : ¬ c → B) : if c then A else B := by
  split
  · exact h1 (by assumption)
  · exact h2 (by assumption)
section
variable {G : Gx} {is : List Nat} {tp : Bool} {b r : S} {env : Loca} {P : Po} {d : D} {ds : List D}
def swI (i : Nat) (c : Cl) (env : Loca) (Q : List D → Loca → Prop) : Prop := match c with
  | .val d => ∃ ds, seqD d = some ds ∧ Q ds env
  | .own (.lst ds) => Q ds env
  | _ => False
theorem i_sow {i : Nat} {Q : List D → Loca → Prop} {X : Exn → Loca → Prop} : wI G (.sow i) env Q X = swI i (at_ env i) env Q := rfl
theorem sw_val {i : Nat} {Q : List D → Loca → Prop} : swI i (.val d) env Q = (∃ ds, seqD d = some ds ∧ Q ds env) := rfl
theorem sw_own {i : Nat} {Q : List D → Loca → Prop} : swI i (.own (.lst ds)) env Q = Q ds env := rfl
theorem forS_nil : forS G is tp b r [] env P = wS G r env P := rfl
theorem forS_cons : forS G is tp b r (d :: ds) env P = wTgt is tp d env fun e => wS G b e ⟨fun e' => ∃ e'', Weak G.iop e' e'' ∧ forS G is tp b r ds e'' P, P.rt, fun e' => wS G r e' P, fun e' => ∃ e'', Weak G.iop e' e'' ∧ forS G is tp b r ds e'' P, P.ex⟩ := rfl
end
/-- a comprehension over data of a kind -/
theorem lcS_of {α : Type} {G : Gx} {i : Nat} {it elt : E} {xs : List α} {env : Loca} {Q : D → Loca → Prop} (h : α → D) (g : α → D) (hi : i < env.length) (hl : xs.length ≤ sizeLine)
    (hs : ∀ x ∈ xs, ∀ k : D → Loca → Prop, k (g x) (put env i (.val (h x))) → wE G elt (put env i (.val (h x))) k fun _ _ => False) (hQ : Q (.lst (xs.map g)) env) (hn : kpN it [i] := by first | trivial | (rw [kpN_sow]; decide)) : lcS G [i] false it .nil elt (xs.map h) env Q := by
  refine lcS_rule (hk := fun n acc e h => by obtain ⟨_, _, c, rfl⟩ := h; exact kpE_1 hn) (fun n acc e => acc = (xs.take n).map g ∧ n ≤ xs.length ∧ ∃ c, e = put env i c) ⟨by simp, by omega, _, (put_self hi).symm⟩ (by rw [List.length_map]; exact hl) (fun n acc e h => by rw [h.1, List.length_map, List.length_take]; omega) ?_ ?_
  · rintro n d acc e k hd ⟨rfl, hn, c, rfl⟩ hk
    rw [List.getElem?_map] at hd
    cases hx : xs[n]? with
    | none => rw [hx] at hd; cases hd
    | some x =>
      rw [hx] at hd
      cases hd
      have hlt := (List.getElem?_eq_some_iff.mp hx).1
      show wE G elt (put (put (put env i c) i .emp) i (.val (h x))) k _
      rw [put_put, put_put]
      refine hs x (List.mem_of_getElem? hx) k (hk _ _ ⟨?_, hlt, _, rfl⟩)
      rw [List.take_succ, hx, List.map_append]
      rfl
  · rintro acc e ⟨rfl, _, c, rfl⟩
    rw [List.length_map, List.take_length]
    show Q _ (put (put (put env i c) i .emp) i (at_ env i))
    rw [put_put, put_put, put_self hi]
    exact hQ
section
variable {it c : E} {elt : E} {is : List Nat} {tp : Bool} {G : Gx} {env : Loca} {Q : D → Loca → Prop}
/-- a comprehension with a test, over one name, that only reckons -/
theorem lcS_filter {i : Nat} {ds : List D} (p : D → Bool) (g : D → D) (hi : i < env.length) (hl : ds.length ≤ sizeLine)
    (hc : ∀ d ∈ ds, ∀ k : Bool → Loca → Prop, k (p d) (put env i (.val d)) → wC G c (put env i (.val d)) k)
    (hs : ∀ d ∈ ds, p d = true → ∀ k : D → Loca → Prop, k (g d) (put env i (.val d)) → wE G elt (put env i (.val d)) k fun _ _ => False) (hQ : Q (.lst ((ds.filter p).map g)) env) (hn : kpN it [i] := by first | trivial | (rw [kpN_sow]; decide)) : lcS G [i] false it c elt ds env Q := by
  unfold lcS
  refine lc_rule (fun rest acc e => ∃ n, n + rest.length = ds.length ∧ rest = ds.drop n ∧ acc = ((ds.take n).filter p).map g ∧ ∃ c, e = put env i c) ?_ ?_ ds [] env ⟨0, by omega, rfl, rfl, _, (put_self hi).symm⟩
  · rintro d rest acc e k ⟨n, h1, h2, rfl, c0, rfl⟩ hsm hnn
    have hd : ds[n]? = some d := by
      have := congrArg (fun l => l[0]?) h2
      simpa using this.symm
    have hmem := List.mem_of_getElem? hd
    have hlt := (List.getElem?_eq_some_iff.mp hd).1
    have htl : rest = ds.drop (n + 1) := by
      have := congrArg List.tail h2
      simpa using this
    have htk : ds.take (n + 1) = ds.take n ++ [d] := by rw [List.take_succ, hd]; rfl
    simp only [List.length_cons] at h1
    refine ⟨kpE_1 hn, ?_⟩
    show wC G c (put (put (put env i c0) i .emp) i (.val d)) _
    rw [put_put, put_put]
    refine hc d hmem _ ?_
    by_cases hp : p d = true
    · rw [if_pos hp]
      refine hs d hmem hp _ ?_
      refine hsm _ _ ?_ ⟨n + 1, by omega, htl, ?_, _, rfl⟩
      · have : (((ds.take n).filter p).map g).length ≤ n := by
          rw [List.length_map]
          exact Nat.le_trans (List.length_filter_le _ _) (by rw [List.length_take]; omega)
        omega
      · rw [htk, List.filter_append, List.map_append]
        simp [hp]
    · rw [if_neg hp]
      refine hnn _ ⟨n + 1, by omega, htl, ?_, _, rfl⟩
      rw [htk, List.filter_append, List.map_append]
      simp [hp]
  · rintro acc e ⟨n, h1, _, rfl, c0, rfl⟩
    have : n = ds.length := by simpa using h1
    subst this
    rw [List.take_length]
    refine ⟨kpE_1 hn, ?_⟩
    show Q _ (put (put (put env i c0) i .emp) i (at_ env i))
    rw [put_put, put_put, put_self hi]
    exact hQ
end
end Pd

/-! k42: what is said of each def. -/
namespace Pd.K42
open L2 PyProof.Rows PySem.Spec PySem
local macro_rules
  | `(tactic| simp_arith [$ts,*]) => `(tactic| simp only [st_for, st_nil, st_expr, st_asg, st_asgl, st_unp, st_par, st_app, st_seti, st_ret, st_retn, st_brk, st_cnt, st_rmal, st_tr, e_int, e_bl, e_non, e_str, e_fnv, e_gint, e_bin, e_neg, e_cmp, e_isn, e_ntn, e_and, e_or, e_tup, e_lst, e_call, e_cio, e_clv, e_blt, e_isi, e_ix, e_slc, e_rev, e_lrng, e_lc, e_met, wA, wP, wT, kpN_sow, kpN_seq, kpN_rng, kpN_zip, kpN_enm, i_rng, i_seq, i_zip, i_enm, wCs, wHnd, at_, put, putAll, putCs, wTgt, rng_1, rng_2, zip_tt, zip_ll, enm_t, enm_l, cellOf, frE, frF, frB, isOwn, isOwnL, List.getElem?_cons_zero, List.getElem?_cons_succ, List.getElem?_nil, Option.getD_some, Option.getD_none, List.set_cons_zero, List.set_cons_succ, ne_eq, reduceCtorEq, not_false_eq_true, not_true_eq_false, true_and, and_true, if_true, if_false, ite_true, ite_false, Bool.false_eq_true, Bool.true_eq_false, Bool.true_and, Bool.and_true, Bool.false_and, Bool.and_false, Bool.not_true, Bool.not_false, false_implies, true_implies, forall_const, implies_true, bin_add, bin_sub, bin_mul, bin_fdiv, bin_mod, bin_adds, bin_addt, bin_addl, bin_mull, bin_mult, cmp_lt, cmp_le, cmp_gt, cmp_ge, cmp_eqi, cmp_nei, cmp_eqb, cmp_eqs, tru_bl, tru_int, tru_non, tru_tup, tru_lst, tru_frz, ix_tup, len_tup, tpl_tup, lsl_tup, slc_tup, seq_tup, ix_lst, len_lst, tpl_lst, lsl_lst, slc_lst, seq_lst, ix_frz, len_frz, tpl_frz, lsl_frz, slc_frz, seq_frz, len_str, blt_abs, blt_int, blt_intb, blt_max, blt_min, blt_str, blt_all, blt_any, blt_sum, opt_0, opt_1, atI_0, atI_1, atI_2, atI_3, atI_4, ixN_20, ixN_21, ty_bl_int, ty_bl_bool, ty_bl_str, ty_bl_tuple, ty_bl_list, ht_bl, nn_bl, mu_bl, ty_int_int, ty_int_bool, ty_int_str, ty_int_tuple, ty_int_list, ht_int, nn_int, mu_int, ty_str_int, ty_str_bool, ty_str_str, ty_str_tuple, ty_str_list, ht_str, nn_str, mu_str, ty_tup_int, ty_tup_bool, ty_tup_str, ty_tup_tuple, ty_tup_list, ht_tup, nn_tup, mu_tup, ty_lst_int, ty_lst_bool, ty_lst_str, ty_lst_tuple, ty_lst_list, ht_lst, nn_lst, mu_lst, ty_frz_int, ty_frz_bool, ty_frz_str, ty_frz_tuple, ty_frz_list, ht_frz, nn_frz, mu_frz, ty_non_int, ty_non_bool, ty_non_str, ty_non_tuple, ty_non_list, ht_non, nn_non, mu_non, List.map_cons, List.map_nil, exists_eq_left', decide_eq_true_eq, exists_eq_left, List.length_cons, List.length_nil, Nat.reduceAdd, Int.reduceEq, Int.reduceLT, Int.reduceLE, Int.reduceNeg, decide_true, decide_false, Cl.own.injEq, D.tup.injEq, List.mem_cons, List.not_mem_nil, or_false, forall_eq_or_imp, forall_eq, Option.some.injEq, strOk_digits, strOk_zero, strOk_told, strOk_refused, strOk_malformed, i_sow, sw_val, sw_own, br_t, br_f, br_not, br_dec, br_beq, beq_iff_eq, br_and, br_or, br_same, bb_bl, so_ife, eo_ite, eo_chn, eo_not, and_1, and_2, or_1, or_2, ta_n, ta_c, to_n, to_c, cmp_in, cmp_nin, inok_i, inok_int, inok_str, inok_tup, any_ints, scl_int, scl_str, scl_bl, scl_non, sizeLine, Nat.reducePow, blt_maxl, blt_minl, Int.cast_ofNat_Int, st_rexc, rx_ref, rx_nt, cmp_tt, cmn_tt, cmp_ll, cmn_ll, okD_int, okD_bl, okD_non, okD_str, okD_tup, okD_lst, okDs_nil, okDs_cons, depD_int, depD_bl, depD_non, depD_str, depD_tup, depD_lst, depDs_nil, depDs_cons, eqok_ti, eqok_li, eqok_t, eqok_l, okDs_ints, depDs_ints, eq_int, eq_bl, eq_str, eq_non, eq_tup, eq_lst, eqs_nil, eqs_nc, eqs_cn, eqs_ints, eqs_cons, Nat.max_self, Nat.zero_max, Nat.max_zero, Nat.zero_add, Nat.le_refl, Nat.zero_le, pkv_val, pkv_own, evv_val, evv_own, rtv_val, rtv_own, rd_dat, rd_slot, dm_val, dm_own, ev_var, pk_var, rt_var, pk_int, rt_int, pk_bl, rt_bl, pk_non, rt_non, pk_str, rt_str, pk_fnv, rt_fnv, pk_gint, rt_gint, pk_bin, rt_bin, pk_neg, rt_neg, pk_not, rt_not, pk_cmp, rt_cmp, pk_chn, rt_chn, pk_isn, rt_isn, pk_ntn, rt_ntn, pk_and, rt_and, pk_or, rt_or, pk_ite, rt_ite, pk_tup, rt_tup, pk_lst, rt_lst, pk_call, rt_call, pk_cio, rt_cio, pk_clv, rt_clv, pk_blt, rt_blt, pk_isi, rt_isi, pk_ix, rt_ix, pk_slc, rt_slc, pk_rev, rt_rev, pk_lrng, rt_lrng, pk_lc, rt_lc, pk_met, rt_met, S0_eq, S1_eq, S2_eq, S3_eq, S4_eq, S5_eq, S6_eq, M.isint_eq, M.iscnt_eq, M.chkcnt_eq, M.isrow_eq, M.isword_eq, M.state_eq, M.take_eq, M.great_eq, M.says_eq, M.same_eq, M.told_eq, M.allmal_eq, M.badD_eq, M.toldX_mal, M.toldX_ref, M.isI_int, M.isI_bl, M.isI_non, M.isI_str, M.isI_tup, M.isI_lst, M.cnt_i, M.cnt_bl, M.cnt_non, M.cnt_str, M.cnt_tup, M.cnt_lst, M.says_bl, M.says_int, M.says_non, M.isRow_tup, M.isRow_ints, M.isRow_int, M.isRow_bl, M.isRow_non, M.isRow_str, M.isRow_lst, M.rowOk_int, M.rowOk_bl, M.rowOk_non, M.rowOk_str, M.rowOk_lst, M.rowOk_ints, M.rowOk_tup, M.isWord_ints, M.seen_int, M.seen_bl, M.seen_str, M.seen_non, M.seen_lst, M.seen_ints, M.seen_tup, M.due_int, M.due_bl, M.due_str, M.due_non, M.due_t1, M.due_t2, M.due_t3, M.due_t4, M.due_t5, M.due_t6, M.due_l2, M.due_l3, M.due_l4, M.due_l5, M.due_l6, M.same_int, M.same_bl, M.same_str, M.same_non, M.same_tup, M.same_tlst, M.sames_nil, M.sames_cons, List.all_cons, List.all_nil, em, List.replicate_succ, List.replicate_zero, and_self, imp_self, List.any_cons, List.any_nil, Bool.or_true, Bool.true_or, Bool.or_false, Bool.false_or, Bool.or_self, Bool.and_self, Int.reduceAdd, Int.reduceSub, Int.reduceMul, Nat.reduceLeDiff, Nat.reduceLT, Nat.reduceEqDiff, Int.reduceAbs, Int.reduceToNat, Int.toNat_natCast, s_is_integer, fr_is_integer, p_is_integer, s_is_whole_row, fr_is_whole_row, p_is_whole_row, s_is_ring, fr_is_ring, p_is_ring, s_is_spot, fr_is_spot, p_is_spot, s_check_spots, fr_check_spots, p_check_spots, s_spot_plus, fr_spot_plus, p_spot_plus, s_spot_less, fr_spot_less, p_spot_less, s_spot_times, fr_spot_times, p_spot_times, s_spot_product, fr_spot_product, p_spot_product, s_spot_norm, fr_spot_norm, p_spot_norm, s_spot_turned, fr_spot_turned, p_spot_turned, s_spot_over, fr_spot_over, p_spot_over, s_spot_quotient, fr_spot_quotient, p_spot_quotient, s_is_plane_base, fr_is_plane_base, p_is_plane_base, s_plain_digits, fr_plain_digits, p_plain_digits, s_plane_step, fr_plane_step, p_plane_step, s_is_gauss_base, fr_is_gauss_base, p_is_gauss_base, s__law_state, fr__law_state, p__law_state, s__law_take, fr__law_take, p__law_take, s__law_says, fr__law_says, p__law_says, s__law_is_whole, fr__law_is_whole, p__law_is_whole, s__law_same_v, fr__law_same_v, p__law_same_v, s__law_same_0, fr__law_same_0, p__law_same_0, s__law_same_1, fr__law_same_1, p__law_same_1, s__law_same_2, fr__law_same_2, p__law_same_2, s__law_same_3, fr__law_same_3, p__law_same_3, s__law_same_4, fr__law_same_4, p__law_same_4, s__law_told, fr__law_told, p__law_told, s__law_all_malformed, fr__law_all_malformed, p__law_all_malformed, s__law_product, fr__law_product, p__law_product, s__law_norm, fr__law_norm, p__law_norm, s__law_over_spot, fr__law_over_spot, p__law_over_spot, s__law_less, fr__law_less, p__law_less, s__law_ring, fr__law_ring, p__law_ring, s__law_plane, fr__law_plane, p__law_plane, s__law_step, fr__law_step, p__law_step, s__law_spot, fr__law_spot, p__law_spot, s__law_is_spot, fr__law_is_spot, p__law_is_spot, s__law_is_base, fr__law_is_base, p__law_is_base, s_law, fr_law, p_law, v_7, v_9, v_10, v_11, v_13, v_14, v_16, $ts,*])
  | `(tactic| simp_arith) => `(tactic| simp only [st_for, st_nil, st_expr, st_asg, st_asgl, st_unp, st_par, st_app, st_seti, st_ret, st_retn, st_brk, st_cnt, st_rmal, st_tr, e_int, e_bl, e_non, e_str, e_fnv, e_gint, e_bin, e_neg, e_cmp, e_isn, e_ntn, e_and, e_or, e_tup, e_lst, e_call, e_cio, e_clv, e_blt, e_isi, e_ix, e_slc, e_rev, e_lrng, e_lc, e_met, wA, wP, wT, kpN_sow, kpN_seq, kpN_rng, kpN_zip, kpN_enm, i_rng, i_seq, i_zip, i_enm, wCs, wHnd, at_, put, putAll, putCs, wTgt, rng_1, rng_2, zip_tt, zip_ll, enm_t, enm_l, cellOf, frE, frF, frB, isOwn, isOwnL, List.getElem?_cons_zero, List.getElem?_cons_succ, List.getElem?_nil, Option.getD_some, Option.getD_none, List.set_cons_zero, List.set_cons_succ, ne_eq, reduceCtorEq, not_false_eq_true, not_true_eq_false, true_and, and_true, if_true, if_false, ite_true, ite_false, Bool.false_eq_true, Bool.true_eq_false, Bool.true_and, Bool.and_true, Bool.false_and, Bool.and_false, Bool.not_true, Bool.not_false, false_implies, true_implies, forall_const, implies_true, bin_add, bin_sub, bin_mul, bin_fdiv, bin_mod, bin_adds, bin_addt, bin_addl, bin_mull, bin_mult, cmp_lt, cmp_le, cmp_gt, cmp_ge, cmp_eqi, cmp_nei, cmp_eqb, cmp_eqs, tru_bl, tru_int, tru_non, tru_tup, tru_lst, tru_frz, ix_tup, len_tup, tpl_tup, lsl_tup, slc_tup, seq_tup, ix_lst, len_lst, tpl_lst, lsl_lst, slc_lst, seq_lst, ix_frz, len_frz, tpl_frz, lsl_frz, slc_frz, seq_frz, len_str, blt_abs, blt_int, blt_intb, blt_max, blt_min, blt_str, blt_all, blt_any, blt_sum, opt_0, opt_1, atI_0, atI_1, atI_2, atI_3, atI_4, ixN_20, ixN_21, ty_bl_int, ty_bl_bool, ty_bl_str, ty_bl_tuple, ty_bl_list, ht_bl, nn_bl, mu_bl, ty_int_int, ty_int_bool, ty_int_str, ty_int_tuple, ty_int_list, ht_int, nn_int, mu_int, ty_str_int, ty_str_bool, ty_str_str, ty_str_tuple, ty_str_list, ht_str, nn_str, mu_str, ty_tup_int, ty_tup_bool, ty_tup_str, ty_tup_tuple, ty_tup_list, ht_tup, nn_tup, mu_tup, ty_lst_int, ty_lst_bool, ty_lst_str, ty_lst_tuple, ty_lst_list, ht_lst, nn_lst, mu_lst, ty_frz_int, ty_frz_bool, ty_frz_str, ty_frz_tuple, ty_frz_list, ht_frz, nn_frz, mu_frz, ty_non_int, ty_non_bool, ty_non_str, ty_non_tuple, ty_non_list, ht_non, nn_non, mu_non, List.map_cons, List.map_nil, exists_eq_left', decide_eq_true_eq, exists_eq_left, List.length_cons, List.length_nil, Nat.reduceAdd, Int.reduceEq, Int.reduceLT, Int.reduceLE, Int.reduceNeg, decide_true, decide_false, Cl.own.injEq, D.tup.injEq, List.mem_cons, List.not_mem_nil, or_false, forall_eq_or_imp, forall_eq, Option.some.injEq, strOk_digits, strOk_zero, strOk_told, strOk_refused, strOk_malformed, i_sow, sw_val, sw_own, br_t, br_f, br_not, br_dec, br_beq, beq_iff_eq, br_and, br_or, br_same, bb_bl, so_ife, eo_ite, eo_chn, eo_not, and_1, and_2, or_1, or_2, ta_n, ta_c, to_n, to_c, cmp_in, cmp_nin, inok_i, inok_int, inok_str, inok_tup, any_ints, scl_int, scl_str, scl_bl, scl_non, sizeLine, Nat.reducePow, blt_maxl, blt_minl, Int.cast_ofNat_Int, st_rexc, rx_ref, rx_nt, cmp_tt, cmn_tt, cmp_ll, cmn_ll, okD_int, okD_bl, okD_non, okD_str, okD_tup, okD_lst, okDs_nil, okDs_cons, depD_int, depD_bl, depD_non, depD_str, depD_tup, depD_lst, depDs_nil, depDs_cons, eqok_ti, eqok_li, eqok_t, eqok_l, okDs_ints, depDs_ints, eq_int, eq_bl, eq_str, eq_non, eq_tup, eq_lst, eqs_nil, eqs_nc, eqs_cn, eqs_ints, eqs_cons, Nat.max_self, Nat.zero_max, Nat.max_zero, Nat.zero_add, Nat.le_refl, Nat.zero_le, pkv_val, pkv_own, evv_val, evv_own, rtv_val, rtv_own, rd_dat, rd_slot, dm_val, dm_own, ev_var, pk_var, rt_var, pk_int, rt_int, pk_bl, rt_bl, pk_non, rt_non, pk_str, rt_str, pk_fnv, rt_fnv, pk_gint, rt_gint, pk_bin, rt_bin, pk_neg, rt_neg, pk_not, rt_not, pk_cmp, rt_cmp, pk_chn, rt_chn, pk_isn, rt_isn, pk_ntn, rt_ntn, pk_and, rt_and, pk_or, rt_or, pk_ite, rt_ite, pk_tup, rt_tup, pk_lst, rt_lst, pk_call, rt_call, pk_cio, rt_cio, pk_clv, rt_clv, pk_blt, rt_blt, pk_isi, rt_isi, pk_ix, rt_ix, pk_slc, rt_slc, pk_rev, rt_rev, pk_lrng, rt_lrng, pk_lc, rt_lc, pk_met, rt_met, S0_eq, S1_eq, S2_eq, S3_eq, S4_eq, S5_eq, S6_eq, M.isint_eq, M.iscnt_eq, M.chkcnt_eq, M.isrow_eq, M.isword_eq, M.state_eq, M.take_eq, M.great_eq, M.says_eq, M.same_eq, M.told_eq, M.allmal_eq, M.badD_eq, M.toldX_mal, M.toldX_ref, M.isI_int, M.isI_bl, M.isI_non, M.isI_str, M.isI_tup, M.isI_lst, M.cnt_i, M.cnt_bl, M.cnt_non, M.cnt_str, M.cnt_tup, M.cnt_lst, M.says_bl, M.says_int, M.says_non, M.isRow_tup, M.isRow_ints, M.isRow_int, M.isRow_bl, M.isRow_non, M.isRow_str, M.isRow_lst, M.rowOk_int, M.rowOk_bl, M.rowOk_non, M.rowOk_str, M.rowOk_lst, M.rowOk_ints, M.rowOk_tup, M.isWord_ints, M.seen_int, M.seen_bl, M.seen_str, M.seen_non, M.seen_lst, M.seen_ints, M.seen_tup, M.due_int, M.due_bl, M.due_str, M.due_non, M.due_t1, M.due_t2, M.due_t3, M.due_t4, M.due_t5, M.due_t6, M.due_l2, M.due_l3, M.due_l4, M.due_l5, M.due_l6, M.same_int, M.same_bl, M.same_str, M.same_non, M.same_tup, M.same_tlst, M.sames_nil, M.sames_cons, List.all_cons, List.all_nil, em, List.replicate_succ, List.replicate_zero, and_self, imp_self, List.any_cons, List.any_nil, Bool.or_true, Bool.true_or, Bool.or_false, Bool.false_or, Bool.or_self, Bool.and_self, Int.reduceAdd, Int.reduceSub, Int.reduceMul, Nat.reduceLeDiff, Nat.reduceLT, Nat.reduceEqDiff, Int.reduceAbs, Int.reduceToNat, Int.toNat_natCast, s_is_integer, fr_is_integer, p_is_integer, s_is_whole_row, fr_is_whole_row, p_is_whole_row, s_is_ring, fr_is_ring, p_is_ring, s_is_spot, fr_is_spot, p_is_spot, s_check_spots, fr_check_spots, p_check_spots, s_spot_plus, fr_spot_plus, p_spot_plus, s_spot_less, fr_spot_less, p_spot_less, s_spot_times, fr_spot_times, p_spot_times, s_spot_product, fr_spot_product, p_spot_product, s_spot_norm, fr_spot_norm, p_spot_norm, s_spot_turned, fr_spot_turned, p_spot_turned, s_spot_over, fr_spot_over, p_spot_over, s_spot_quotient, fr_spot_quotient, p_spot_quotient, s_is_plane_base, fr_is_plane_base, p_is_plane_base, s_plain_digits, fr_plain_digits, p_plain_digits, s_plane_step, fr_plane_step, p_plane_step, s_is_gauss_base, fr_is_gauss_base, p_is_gauss_base, s__law_state, fr__law_state, p__law_state, s__law_take, fr__law_take, p__law_take, s__law_says, fr__law_says, p__law_says, s__law_is_whole, fr__law_is_whole, p__law_is_whole, s__law_same_v, fr__law_same_v, p__law_same_v, s__law_same_0, fr__law_same_0, p__law_same_0, s__law_same_1, fr__law_same_1, p__law_same_1, s__law_same_2, fr__law_same_2, p__law_same_2, s__law_same_3, fr__law_same_3, p__law_same_3, s__law_same_4, fr__law_same_4, p__law_same_4, s__law_told, fr__law_told, p__law_told, s__law_all_malformed, fr__law_all_malformed, p__law_all_malformed, s__law_product, fr__law_product, p__law_product, s__law_norm, fr__law_norm, p__law_norm, s__law_over_spot, fr__law_over_spot, p__law_over_spot, s__law_less, fr__law_less, p__law_less, s__law_ring, fr__law_ring, p__law_ring, s__law_plane, fr__law_plane, p__law_plane, s__law_step, fr__law_step, p__law_step, s__law_spot, fr__law_spot, p__law_spot, s__law_is_spot, fr__law_is_spot, p__law_is_spot, s__law_is_base, fr__law_is_base, p__law_is_base, s_law, fr_law, p_law, v_7, v_9, v_10, v_11, v_13, v_14, v_16])
local macro_rules
  | `(tactic| simp_arith! [$ts,*]) => `(tactic| simp only [st_for, st_nil, st_ret, st_retn, st_brk, st_cnt, st_rmal, e_int, e_bl, e_non, e_str, e_fnv, e_gint, e_bin, e_neg, e_cmp, e_isn, e_ntn, e_and, e_or, e_tup, e_lst, e_call, e_cio, e_clv, e_blt, e_isi, e_ix, e_slc, e_rev, e_lrng, e_lc, e_met, wA, wP, wT, kpN_sow, kpN_seq, kpN_rng, kpN_zip, kpN_enm, i_rng, i_seq, i_zip, i_enm, wCs, wHnd, at_, put, putAll, putCs, wTgt, rng_1, rng_2, zip_tt, zip_ll, enm_t, enm_l, cellOf, frE, frF, frB, isOwn, isOwnL, List.getElem?_cons_zero, List.getElem?_cons_succ, List.getElem?_nil, Option.getD_some, Option.getD_none, List.set_cons_zero, List.set_cons_succ, ne_eq, reduceCtorEq, not_false_eq_true, not_true_eq_false, true_and, and_true, if_true, if_false, ite_true, ite_false, Bool.false_eq_true, Bool.true_eq_false, Bool.true_and, Bool.and_true, Bool.false_and, Bool.and_false, Bool.not_true, Bool.not_false, false_implies, true_implies, forall_const, implies_true, bin_add, bin_sub, bin_mul, bin_fdiv, bin_mod, bin_adds, bin_addt, bin_addl, bin_mull, bin_mult, cmp_lt, cmp_le, cmp_gt, cmp_ge, cmp_eqi, cmp_nei, cmp_eqb, cmp_eqs, tru_bl, tru_int, tru_non, tru_tup, tru_lst, tru_frz, ix_tup, len_tup, tpl_tup, lsl_tup, slc_tup, seq_tup, ix_lst, len_lst, tpl_lst, lsl_lst, slc_lst, seq_lst, ix_frz, len_frz, tpl_frz, lsl_frz, slc_frz, seq_frz, len_str, blt_abs, blt_int, blt_intb, blt_max, blt_min, blt_str, blt_all, blt_any, blt_sum, opt_0, opt_1, atI_0, atI_1, atI_2, atI_3, atI_4, ixN_20, ixN_21, ty_bl_int, ty_bl_bool, ty_bl_str, ty_bl_tuple, ty_bl_list, ht_bl, nn_bl, mu_bl, ty_int_int, ty_int_bool, ty_int_str, ty_int_tuple, ty_int_list, ht_int, nn_int, mu_int, ty_str_int, ty_str_bool, ty_str_str, ty_str_tuple, ty_str_list, ht_str, nn_str, mu_str, ty_tup_int, ty_tup_bool, ty_tup_str, ty_tup_tuple, ty_tup_list, ht_tup, nn_tup, mu_tup, ty_lst_int, ty_lst_bool, ty_lst_str, ty_lst_tuple, ty_lst_list, ht_lst, nn_lst, mu_lst, ty_frz_int, ty_frz_bool, ty_frz_str, ty_frz_tuple, ty_frz_list, ht_frz, nn_frz, mu_frz, ty_non_int, ty_non_bool, ty_non_str, ty_non_tuple, ty_non_list, ht_non, nn_non, mu_non, List.map_cons, List.map_nil, exists_eq_left', decide_eq_true_eq, exists_eq_left, List.length_cons, List.length_nil, Nat.reduceAdd, Int.reduceEq, Int.reduceLT, Int.reduceLE, Int.reduceNeg, decide_true, decide_false, Cl.own.injEq, D.tup.injEq, List.mem_cons, List.not_mem_nil, or_false, forall_eq_or_imp, forall_eq, Option.some.injEq, strOk_digits, strOk_zero, strOk_told, strOk_refused, strOk_malformed, i_sow, sw_val, sw_own, br_t, br_f, br_not, br_dec, br_beq, beq_iff_eq, br_and, br_or, br_same, bb_bl, eo_ite, eo_chn, eo_not, and_1, and_2, or_1, or_2, ta_n, ta_c, to_n, to_c, cmp_in, cmp_nin, inok_i, inok_int, inok_str, inok_tup, any_ints, scl_int, scl_str, scl_bl, scl_non, sizeLine, Nat.reducePow, blt_maxl, blt_minl, Int.cast_ofNat_Int, st_rexc, rx_ref, rx_nt, cmp_tt, cmn_tt, cmp_ll, cmn_ll, okD_int, okD_bl, okD_non, okD_str, okD_tup, okD_lst, okDs_nil, okDs_cons, depD_int, depD_bl, depD_non, depD_str, depD_tup, depD_lst, depDs_nil, depDs_cons, eqok_ti, eqok_li, eqok_t, eqok_l, okDs_ints, depDs_ints, eq_int, eq_bl, eq_str, eq_non, eq_tup, eq_lst, eqs_nil, eqs_nc, eqs_cn, eqs_ints, eqs_cons, Nat.max_self, Nat.zero_max, Nat.max_zero, Nat.zero_add, Nat.le_refl, Nat.zero_le, pkv_val, pkv_own, evv_val, evv_own, rtv_val, rtv_own, rd_dat, rd_slot, dm_val, dm_own, ev_var, pk_var, rt_var, pk_int, rt_int, pk_bl, rt_bl, pk_non, rt_non, pk_str, rt_str, pk_fnv, rt_fnv, pk_gint, rt_gint, pk_bin, rt_bin, pk_neg, rt_neg, pk_not, rt_not, pk_cmp, rt_cmp, pk_chn, rt_chn, pk_isn, rt_isn, pk_ntn, rt_ntn, pk_and, rt_and, pk_or, rt_or, pk_ite, rt_ite, pk_tup, rt_tup, pk_lst, rt_lst, pk_call, rt_call, pk_cio, rt_cio, pk_clv, rt_clv, pk_blt, rt_blt, pk_isi, rt_isi, pk_ix, rt_ix, pk_slc, rt_slc, pk_rev, rt_rev, pk_lrng, rt_lrng, pk_lc, rt_lc, pk_met, rt_met, S0_eq, S1_eq, S2_eq, S3_eq, S4_eq, S5_eq, S6_eq, M.isint_eq, M.iscnt_eq, M.chkcnt_eq, M.isrow_eq, M.isword_eq, M.state_eq, M.take_eq, M.great_eq, M.says_eq, M.same_eq, M.told_eq, M.allmal_eq, M.badD_eq, M.toldX_mal, M.toldX_ref, M.isI_int, M.isI_bl, M.isI_non, M.isI_str, M.isI_tup, M.isI_lst, M.cnt_i, M.cnt_bl, M.cnt_non, M.cnt_str, M.cnt_tup, M.cnt_lst, M.says_bl, M.says_int, M.says_non, M.isRow_tup, M.isRow_ints, M.isRow_int, M.isRow_bl, M.isRow_non, M.isRow_str, M.isRow_lst, M.rowOk_int, M.rowOk_bl, M.rowOk_non, M.rowOk_str, M.rowOk_lst, M.rowOk_ints, M.rowOk_tup, M.isWord_ints, M.seen_int, M.seen_bl, M.seen_str, M.seen_non, M.seen_lst, M.seen_ints, M.seen_tup, M.due_int, M.due_bl, M.due_str, M.due_non, M.due_t1, M.due_t2, M.due_t3, M.due_t4, M.due_t5, M.due_t6, M.due_l2, M.due_l3, M.due_l4, M.due_l5, M.due_l6, M.same_int, M.same_bl, M.same_str, M.same_non, M.same_tup, M.same_tlst, M.sames_nil, M.sames_cons, List.all_cons, List.all_nil, em, List.replicate_succ, List.replicate_zero, and_self, imp_self, List.any_cons, List.any_nil, Bool.or_true, Bool.true_or, Bool.or_false, Bool.false_or, Bool.or_self, Bool.and_self, Int.reduceAdd, Int.reduceSub, Int.reduceMul, Nat.reduceLeDiff, Nat.reduceLT, Nat.reduceEqDiff, Int.reduceAbs, Int.reduceToNat, Int.toNat_natCast, s_is_integer, fr_is_integer, p_is_integer, s_is_whole_row, fr_is_whole_row, p_is_whole_row, s_is_ring, fr_is_ring, p_is_ring, s_is_spot, fr_is_spot, p_is_spot, s_check_spots, fr_check_spots, p_check_spots, s_spot_plus, fr_spot_plus, p_spot_plus, s_spot_less, fr_spot_less, p_spot_less, s_spot_times, fr_spot_times, p_spot_times, s_spot_product, fr_spot_product, p_spot_product, s_spot_norm, fr_spot_norm, p_spot_norm, s_spot_turned, fr_spot_turned, p_spot_turned, s_spot_over, fr_spot_over, p_spot_over, s_spot_quotient, fr_spot_quotient, p_spot_quotient, s_is_plane_base, fr_is_plane_base, p_is_plane_base, s_plain_digits, fr_plain_digits, p_plain_digits, s_plane_step, fr_plane_step, p_plane_step, s_is_gauss_base, fr_is_gauss_base, p_is_gauss_base, s__law_state, fr__law_state, p__law_state, s__law_take, fr__law_take, p__law_take, s__law_says, fr__law_says, p__law_says, s__law_is_whole, fr__law_is_whole, p__law_is_whole, s__law_same_v, fr__law_same_v, p__law_same_v, s__law_same_0, fr__law_same_0, p__law_same_0, s__law_same_1, fr__law_same_1, p__law_same_1, s__law_same_2, fr__law_same_2, p__law_same_2, s__law_same_3, fr__law_same_3, p__law_same_3, s__law_same_4, fr__law_same_4, p__law_same_4, s__law_told, fr__law_told, p__law_told, s__law_all_malformed, fr__law_all_malformed, p__law_all_malformed, s__law_product, fr__law_product, p__law_product, s__law_norm, fr__law_norm, p__law_norm, s__law_over_spot, fr__law_over_spot, p__law_over_spot, s__law_less, fr__law_less, p__law_less, s__law_ring, fr__law_ring, p__law_ring, s__law_plane, fr__law_plane, p__law_plane, s__law_step, fr__law_step, p__law_step, s__law_spot, fr__law_spot, p__law_spot, s__law_is_spot, fr__law_is_spot, p__law_is_spot, s__law_is_base, fr__law_is_base, p__law_is_base, s_law, fr_law, p_law, v_7, v_9, v_10, v_11, v_13, v_14, v_16, sn_expr, sn_asg, sn_asgl, sn_unp, sn_par, sn_app, sn_seti, sn_tr, so_ifn, $ts,*])
  | `(tactic| simp_arith!) => `(tactic| simp only [st_for, st_nil, st_ret, st_retn, st_brk, st_cnt, st_rmal, e_int, e_bl, e_non, e_str, e_fnv, e_gint, e_bin, e_neg, e_cmp, e_isn, e_ntn, e_and, e_or, e_tup, e_lst, e_call, e_cio, e_clv, e_blt, e_isi, e_ix, e_slc, e_rev, e_lrng, e_lc, e_met, wA, wP, wT, kpN_sow, kpN_seq, kpN_rng, kpN_zip, kpN_enm, i_rng, i_seq, i_zip, i_enm, wCs, wHnd, at_, put, putAll, putCs, wTgt, rng_1, rng_2, zip_tt, zip_ll, enm_t, enm_l, cellOf, frE, frF, frB, isOwn, isOwnL, List.getElem?_cons_zero, List.getElem?_cons_succ, List.getElem?_nil, Option.getD_some, Option.getD_none, List.set_cons_zero, List.set_cons_succ, ne_eq, reduceCtorEq, not_false_eq_true, not_true_eq_false, true_and, and_true, if_true, if_false, ite_true, ite_false, Bool.false_eq_true, Bool.true_eq_false, Bool.true_and, Bool.and_true, Bool.false_and, Bool.and_false, Bool.not_true, Bool.not_false, false_implies, true_implies, forall_const, implies_true, bin_add, bin_sub, bin_mul, bin_fdiv, bin_mod, bin_adds, bin_addt, bin_addl, bin_mull, bin_mult, cmp_lt, cmp_le, cmp_gt, cmp_ge, cmp_eqi, cmp_nei, cmp_eqb, cmp_eqs, tru_bl, tru_int, tru_non, tru_tup, tru_lst, tru_frz, ix_tup, len_tup, tpl_tup, lsl_tup, slc_tup, seq_tup, ix_lst, len_lst, tpl_lst, lsl_lst, slc_lst, seq_lst, ix_frz, len_frz, tpl_frz, lsl_frz, slc_frz, seq_frz, len_str, blt_abs, blt_int, blt_intb, blt_max, blt_min, blt_str, blt_all, blt_any, blt_sum, opt_0, opt_1, atI_0, atI_1, atI_2, atI_3, atI_4, ixN_20, ixN_21, ty_bl_int, ty_bl_bool, ty_bl_str, ty_bl_tuple, ty_bl_list, ht_bl, nn_bl, mu_bl, ty_int_int, ty_int_bool, ty_int_str, ty_int_tuple, ty_int_list, ht_int, nn_int, mu_int, ty_str_int, ty_str_bool, ty_str_str, ty_str_tuple, ty_str_list, ht_str, nn_str, mu_str, ty_tup_int, ty_tup_bool, ty_tup_str, ty_tup_tuple, ty_tup_list, ht_tup, nn_tup, mu_tup, ty_lst_int, ty_lst_bool, ty_lst_str, ty_lst_tuple, ty_lst_list, ht_lst, nn_lst, mu_lst, ty_frz_int, ty_frz_bool, ty_frz_str, ty_frz_tuple, ty_frz_list, ht_frz, nn_frz, mu_frz, ty_non_int, ty_non_bool, ty_non_str, ty_non_tuple, ty_non_list, ht_non, nn_non, mu_non, List.map_cons, List.map_nil, exists_eq_left', decide_eq_true_eq, exists_eq_left, List.length_cons, List.length_nil, Nat.reduceAdd, Int.reduceEq, Int.reduceLT, Int.reduceLE, Int.reduceNeg, decide_true, decide_false, Cl.own.injEq, D.tup.injEq, List.mem_cons, List.not_mem_nil, or_false, forall_eq_or_imp, forall_eq, Option.some.injEq, strOk_digits, strOk_zero, strOk_told, strOk_refused, strOk_malformed, i_sow, sw_val, sw_own, br_t, br_f, br_not, br_dec, br_beq, beq_iff_eq, br_and, br_or, br_same, bb_bl, eo_ite, eo_chn, eo_not, and_1, and_2, or_1, or_2, ta_n, ta_c, to_n, to_c, cmp_in, cmp_nin, inok_i, inok_int, inok_str, inok_tup, any_ints, scl_int, scl_str, scl_bl, scl_non, sizeLine, Nat.reducePow, blt_maxl, blt_minl, Int.cast_ofNat_Int, st_rexc, rx_ref, rx_nt, cmp_tt, cmn_tt, cmp_ll, cmn_ll, okD_int, okD_bl, okD_non, okD_str, okD_tup, okD_lst, okDs_nil, okDs_cons, depD_int, depD_bl, depD_non, depD_str, depD_tup, depD_lst, depDs_nil, depDs_cons, eqok_ti, eqok_li, eqok_t, eqok_l, okDs_ints, depDs_ints, eq_int, eq_bl, eq_str, eq_non, eq_tup, eq_lst, eqs_nil, eqs_nc, eqs_cn, eqs_ints, eqs_cons, Nat.max_self, Nat.zero_max, Nat.max_zero, Nat.zero_add, Nat.le_refl, Nat.zero_le, pkv_val, pkv_own, evv_val, evv_own, rtv_val, rtv_own, rd_dat, rd_slot, dm_val, dm_own, ev_var, pk_var, rt_var, pk_int, rt_int, pk_bl, rt_bl, pk_non, rt_non, pk_str, rt_str, pk_fnv, rt_fnv, pk_gint, rt_gint, pk_bin, rt_bin, pk_neg, rt_neg, pk_not, rt_not, pk_cmp, rt_cmp, pk_chn, rt_chn, pk_isn, rt_isn, pk_ntn, rt_ntn, pk_and, rt_and, pk_or, rt_or, pk_ite, rt_ite, pk_tup, rt_tup, pk_lst, rt_lst, pk_call, rt_call, pk_cio, rt_cio, pk_clv, rt_clv, pk_blt, rt_blt, pk_isi, rt_isi, pk_ix, rt_ix, pk_slc, rt_slc, pk_rev, rt_rev, pk_lrng, rt_lrng, pk_lc, rt_lc, pk_met, rt_met, S0_eq, S1_eq, S2_eq, S3_eq, S4_eq, S5_eq, S6_eq, M.isint_eq, M.iscnt_eq, M.chkcnt_eq, M.isrow_eq, M.isword_eq, M.state_eq, M.take_eq, M.great_eq, M.says_eq, M.same_eq, M.told_eq, M.allmal_eq, M.badD_eq, M.toldX_mal, M.toldX_ref, M.isI_int, M.isI_bl, M.isI_non, M.isI_str, M.isI_tup, M.isI_lst, M.cnt_i, M.cnt_bl, M.cnt_non, M.cnt_str, M.cnt_tup, M.cnt_lst, M.says_bl, M.says_int, M.says_non, M.isRow_tup, M.isRow_ints, M.isRow_int, M.isRow_bl, M.isRow_non, M.isRow_str, M.isRow_lst, M.rowOk_int, M.rowOk_bl, M.rowOk_non, M.rowOk_str, M.rowOk_lst, M.rowOk_ints, M.rowOk_tup, M.isWord_ints, M.seen_int, M.seen_bl, M.seen_str, M.seen_non, M.seen_lst, M.seen_ints, M.seen_tup, M.due_int, M.due_bl, M.due_str, M.due_non, M.due_t1, M.due_t2, M.due_t3, M.due_t4, M.due_t5, M.due_t6, M.due_l2, M.due_l3, M.due_l4, M.due_l5, M.due_l6, M.same_int, M.same_bl, M.same_str, M.same_non, M.same_tup, M.same_tlst, M.sames_nil, M.sames_cons, List.all_cons, List.all_nil, em, List.replicate_succ, List.replicate_zero, and_self, imp_self, List.any_cons, List.any_nil, Bool.or_true, Bool.true_or, Bool.or_false, Bool.false_or, Bool.or_self, Bool.and_self, Int.reduceAdd, Int.reduceSub, Int.reduceMul, Nat.reduceLeDiff, Nat.reduceLT, Nat.reduceEqDiff, Int.reduceAbs, Int.reduceToNat, Int.toNat_natCast, s_is_integer, fr_is_integer, p_is_integer, s_is_whole_row, fr_is_whole_row, p_is_whole_row, s_is_ring, fr_is_ring, p_is_ring, s_is_spot, fr_is_spot, p_is_spot, s_check_spots, fr_check_spots, p_check_spots, s_spot_plus, fr_spot_plus, p_spot_plus, s_spot_less, fr_spot_less, p_spot_less, s_spot_times, fr_spot_times, p_spot_times, s_spot_product, fr_spot_product, p_spot_product, s_spot_norm, fr_spot_norm, p_spot_norm, s_spot_turned, fr_spot_turned, p_spot_turned, s_spot_over, fr_spot_over, p_spot_over, s_spot_quotient, fr_spot_quotient, p_spot_quotient, s_is_plane_base, fr_is_plane_base, p_is_plane_base, s_plain_digits, fr_plain_digits, p_plain_digits, s_plane_step, fr_plane_step, p_plane_step, s_is_gauss_base, fr_is_gauss_base, p_is_gauss_base, s__law_state, fr__law_state, p__law_state, s__law_take, fr__law_take, p__law_take, s__law_says, fr__law_says, p__law_says, s__law_is_whole, fr__law_is_whole, p__law_is_whole, s__law_same_v, fr__law_same_v, p__law_same_v, s__law_same_0, fr__law_same_0, p__law_same_0, s__law_same_1, fr__law_same_1, p__law_same_1, s__law_same_2, fr__law_same_2, p__law_same_2, s__law_same_3, fr__law_same_3, p__law_same_3, s__law_same_4, fr__law_same_4, p__law_same_4, s__law_told, fr__law_told, p__law_told, s__law_all_malformed, fr__law_all_malformed, p__law_all_malformed, s__law_product, fr__law_product, p__law_product, s__law_norm, fr__law_norm, p__law_norm, s__law_over_spot, fr__law_over_spot, p__law_over_spot, s__law_less, fr__law_less, p__law_less, s__law_ring, fr__law_ring, p__law_ring, s__law_plane, fr__law_plane, p__law_plane, s__law_step, fr__law_step, p__law_step, s__law_spot, fr__law_spot, p__law_spot, s__law_is_spot, fr__law_is_spot, p__law_is_spot, s__law_is_base, fr__law_is_base, p__law_is_base, s_law, fr_law, p_law, v_7, v_9, v_10, v_11, v_13, v_14, v_16, sn_expr, sn_asg, sn_asgl, sn_unp, sn_par, sn_app, sn_seti, sn_tr, so_ifn])
local macro_rules
  | `(tactic| simp_all_arith [$ts,*]) => `(tactic| ((try (dsimp only)); (try (rw [wN_eq])); try simp only [st_for, st_nil, st_ret, st_retn, st_brk, st_cnt, st_rmal, e_int, e_bl, e_non, e_str, e_fnv, e_gint, e_bin, e_neg, e_cmp, e_isn, e_ntn, e_and, e_or, e_tup, e_lst, e_call, e_cio, e_clv, e_blt, e_isi, e_ix, e_slc, e_rev, e_lrng, e_lc, e_met, wA, wP, wT, kpN_sow, kpN_seq, kpN_rng, kpN_zip, kpN_enm, i_rng, i_seq, i_zip, i_enm, wCs, wHnd, at_, put, putAll, putCs, wTgt, rng_1, rng_2, zip_tt, zip_ll, enm_t, enm_l, cellOf, frE, frF, frB, isOwn, isOwnL, List.getElem?_cons_zero, List.getElem?_cons_succ, List.getElem?_nil, Option.getD_some, Option.getD_none, List.set_cons_zero, List.set_cons_succ, ne_eq, reduceCtorEq, not_false_eq_true, not_true_eq_false, true_and, and_true, if_true, if_false, ite_true, ite_false, Bool.false_eq_true, Bool.true_eq_false, Bool.true_and, Bool.and_true, Bool.false_and, Bool.and_false, Bool.not_true, Bool.not_false, false_implies, true_implies, forall_const, implies_true, bin_add, bin_sub, bin_mul, bin_fdiv, bin_mod, bin_adds, bin_addt, bin_addl, bin_mull, bin_mult, cmp_lt, cmp_le, cmp_gt, cmp_ge, cmp_eqi, cmp_nei, cmp_eqb, cmp_eqs, tru_bl, tru_int, tru_non, tru_tup, tru_lst, tru_frz, ix_tup, len_tup, tpl_tup, lsl_tup, slc_tup, seq_tup, ix_lst, len_lst, tpl_lst, lsl_lst, slc_lst, seq_lst, ix_frz, len_frz, tpl_frz, lsl_frz, slc_frz, seq_frz, len_str, blt_abs, blt_int, blt_intb, blt_max, blt_min, blt_str, blt_all, blt_any, blt_sum, opt_0, opt_1, atI_0, atI_1, atI_2, atI_3, atI_4, ixN_20, ixN_21, ty_bl_int, ty_bl_bool, ty_bl_str, ty_bl_tuple, ty_bl_list, ht_bl, nn_bl, mu_bl, ty_int_int, ty_int_bool, ty_int_str, ty_int_tuple, ty_int_list, ht_int, nn_int, mu_int, ty_str_int, ty_str_bool, ty_str_str, ty_str_tuple, ty_str_list, ht_str, nn_str, mu_str, ty_tup_int, ty_tup_bool, ty_tup_str, ty_tup_tuple, ty_tup_list, ht_tup, nn_tup, mu_tup, ty_lst_int, ty_lst_bool, ty_lst_str, ty_lst_tuple, ty_lst_list, ht_lst, nn_lst, mu_lst, ty_frz_int, ty_frz_bool, ty_frz_str, ty_frz_tuple, ty_frz_list, ht_frz, nn_frz, mu_frz, ty_non_int, ty_non_bool, ty_non_str, ty_non_tuple, ty_non_list, ht_non, nn_non, mu_non, List.map_cons, List.map_nil, exists_eq_left', decide_eq_true_eq, exists_eq_left, List.length_cons, List.length_nil, Nat.reduceAdd, Int.reduceEq, Int.reduceLT, Int.reduceLE, Int.reduceNeg, decide_true, decide_false, Cl.own.injEq, D.tup.injEq, List.mem_cons, List.not_mem_nil, or_false, forall_eq_or_imp, forall_eq, Option.some.injEq, strOk_digits, strOk_zero, strOk_told, strOk_refused, strOk_malformed, i_sow, sw_val, sw_own, br_t, br_f, br_not, br_dec, br_beq, beq_iff_eq, br_and, br_or, br_same, bb_bl, eo_ite, eo_chn, eo_not, and_1, and_2, or_1, or_2, ta_n, ta_c, to_n, to_c, cmp_in, cmp_nin, inok_i, inok_int, inok_str, inok_tup, any_ints, scl_int, scl_str, scl_bl, scl_non, sizeLine, Nat.reducePow, blt_maxl, blt_minl, Int.cast_ofNat_Int, st_rexc, rx_ref, rx_nt, cmp_tt, cmn_tt, cmp_ll, cmn_ll, okD_int, okD_bl, okD_non, okD_str, okD_tup, okD_lst, okDs_nil, okDs_cons, depD_int, depD_bl, depD_non, depD_str, depD_tup, depD_lst, depDs_nil, depDs_cons, eqok_ti, eqok_li, eqok_t, eqok_l, okDs_ints, depDs_ints, eq_int, eq_bl, eq_str, eq_non, eq_tup, eq_lst, eqs_nil, eqs_nc, eqs_cn, eqs_ints, eqs_cons, Nat.max_self, Nat.zero_max, Nat.max_zero, Nat.zero_add, Nat.le_refl, Nat.zero_le, pkv_val, pkv_own, evv_val, evv_own, rtv_val, rtv_own, rd_dat, rd_slot, dm_val, dm_own, ev_var, pk_var, rt_var, pk_int, rt_int, pk_bl, rt_bl, pk_non, rt_non, pk_str, rt_str, pk_fnv, rt_fnv, pk_gint, rt_gint, pk_bin, rt_bin, pk_neg, rt_neg, pk_not, rt_not, pk_cmp, rt_cmp, pk_chn, rt_chn, pk_isn, rt_isn, pk_ntn, rt_ntn, pk_and, rt_and, pk_or, rt_or, pk_ite, rt_ite, pk_tup, rt_tup, pk_lst, rt_lst, pk_call, rt_call, pk_cio, rt_cio, pk_clv, rt_clv, pk_blt, rt_blt, pk_isi, rt_isi, pk_ix, rt_ix, pk_slc, rt_slc, pk_rev, rt_rev, pk_lrng, rt_lrng, pk_lc, rt_lc, pk_met, rt_met, S0_eq, S1_eq, S2_eq, S3_eq, S4_eq, S5_eq, S6_eq, M.isint_eq, M.iscnt_eq, M.chkcnt_eq, M.isrow_eq, M.isword_eq, M.state_eq, M.take_eq, M.great_eq, M.says_eq, M.same_eq, M.told_eq, M.allmal_eq, M.badD_eq, M.toldX_mal, M.toldX_ref, M.isI_int, M.isI_bl, M.isI_non, M.isI_str, M.isI_tup, M.isI_lst, M.cnt_i, M.cnt_bl, M.cnt_non, M.cnt_str, M.cnt_tup, M.cnt_lst, M.says_bl, M.says_int, M.says_non, M.isRow_tup, M.isRow_ints, M.isRow_int, M.isRow_bl, M.isRow_non, M.isRow_str, M.isRow_lst, M.rowOk_int, M.rowOk_bl, M.rowOk_non, M.rowOk_str, M.rowOk_lst, M.rowOk_ints, M.rowOk_tup, M.isWord_ints, M.seen_int, M.seen_bl, M.seen_str, M.seen_non, M.seen_lst, M.seen_ints, M.seen_tup, M.due_int, M.due_bl, M.due_str, M.due_non, M.due_t1, M.due_t2, M.due_t3, M.due_t4, M.due_t5, M.due_t6, M.due_l2, M.due_l3, M.due_l4, M.due_l5, M.due_l6, M.same_int, M.same_bl, M.same_str, M.same_non, M.same_tup, M.same_tlst, M.sames_nil, M.sames_cons, List.all_cons, List.all_nil, em, List.replicate_succ, List.replicate_zero, and_self, imp_self, List.any_cons, List.any_nil, Bool.or_true, Bool.true_or, Bool.or_false, Bool.false_or, Bool.or_self, Bool.and_self, Int.reduceAdd, Int.reduceSub, Int.reduceMul, Nat.reduceLeDiff, Nat.reduceLT, Nat.reduceEqDiff, Int.reduceAbs, Int.reduceToNat, Int.toNat_natCast, s_is_integer, fr_is_integer, p_is_integer, s_is_whole_row, fr_is_whole_row, p_is_whole_row, s_is_ring, fr_is_ring, p_is_ring, s_is_spot, fr_is_spot, p_is_spot, s_check_spots, fr_check_spots, p_check_spots, s_spot_plus, fr_spot_plus, p_spot_plus, s_spot_less, fr_spot_less, p_spot_less, s_spot_times, fr_spot_times, p_spot_times, s_spot_product, fr_spot_product, p_spot_product, s_spot_norm, fr_spot_norm, p_spot_norm, s_spot_turned, fr_spot_turned, p_spot_turned, s_spot_over, fr_spot_over, p_spot_over, s_spot_quotient, fr_spot_quotient, p_spot_quotient, s_is_plane_base, fr_is_plane_base, p_is_plane_base, s_plain_digits, fr_plain_digits, p_plain_digits, s_plane_step, fr_plane_step, p_plane_step, s_is_gauss_base, fr_is_gauss_base, p_is_gauss_base, s__law_state, fr__law_state, p__law_state, s__law_take, fr__law_take, p__law_take, s__law_says, fr__law_says, p__law_says, s__law_is_whole, fr__law_is_whole, p__law_is_whole, s__law_same_v, fr__law_same_v, p__law_same_v, s__law_same_0, fr__law_same_0, p__law_same_0, s__law_same_1, fr__law_same_1, p__law_same_1, s__law_same_2, fr__law_same_2, p__law_same_2, s__law_same_3, fr__law_same_3, p__law_same_3, s__law_same_4, fr__law_same_4, p__law_same_4, s__law_told, fr__law_told, p__law_told, s__law_all_malformed, fr__law_all_malformed, p__law_all_malformed, s__law_product, fr__law_product, p__law_product, s__law_norm, fr__law_norm, p__law_norm, s__law_over_spot, fr__law_over_spot, p__law_over_spot, s__law_less, fr__law_less, p__law_less, s__law_ring, fr__law_ring, p__law_ring, s__law_plane, fr__law_plane, p__law_plane, s__law_step, fr__law_step, p__law_step, s__law_spot, fr__law_spot, p__law_spot, s__law_is_spot, fr__law_is_spot, p__law_is_spot, s__law_is_base, fr__law_is_base, p__law_is_base, s_law, fr_law, p_law, v_7, v_9, v_10, v_11, v_13, v_14, v_16, sn_expr, sn_asg, sn_asgl, sn_unp, sn_par, sn_app, sn_seti, sn_tr, so_ifn, $ts,*]))
  | `(tactic| simp_all_arith) => `(tactic| ((try (dsimp only)); (try (rw [wN_eq])); try simp only [st_for, st_nil, st_ret, st_retn, st_brk, st_cnt, st_rmal, e_int, e_bl, e_non, e_str, e_fnv, e_gint, e_bin, e_neg, e_cmp, e_isn, e_ntn, e_and, e_or, e_tup, e_lst, e_call, e_cio, e_clv, e_blt, e_isi, e_ix, e_slc, e_rev, e_lrng, e_lc, e_met, wA, wP, wT, kpN_sow, kpN_seq, kpN_rng, kpN_zip, kpN_enm, i_rng, i_seq, i_zip, i_enm, wCs, wHnd, at_, put, putAll, putCs, wTgt, rng_1, rng_2, zip_tt, zip_ll, enm_t, enm_l, cellOf, frE, frF, frB, isOwn, isOwnL, List.getElem?_cons_zero, List.getElem?_cons_succ, List.getElem?_nil, Option.getD_some, Option.getD_none, List.set_cons_zero, List.set_cons_succ, ne_eq, reduceCtorEq, not_false_eq_true, not_true_eq_false, true_and, and_true, if_true, if_false, ite_true, ite_false, Bool.false_eq_true, Bool.true_eq_false, Bool.true_and, Bool.and_true, Bool.false_and, Bool.and_false, Bool.not_true, Bool.not_false, false_implies, true_implies, forall_const, implies_true, bin_add, bin_sub, bin_mul, bin_fdiv, bin_mod, bin_adds, bin_addt, bin_addl, bin_mull, bin_mult, cmp_lt, cmp_le, cmp_gt, cmp_ge, cmp_eqi, cmp_nei, cmp_eqb, cmp_eqs, tru_bl, tru_int, tru_non, tru_tup, tru_lst, tru_frz, ix_tup, len_tup, tpl_tup, lsl_tup, slc_tup, seq_tup, ix_lst, len_lst, tpl_lst, lsl_lst, slc_lst, seq_lst, ix_frz, len_frz, tpl_frz, lsl_frz, slc_frz, seq_frz, len_str, blt_abs, blt_int, blt_intb, blt_max, blt_min, blt_str, blt_all, blt_any, blt_sum, opt_0, opt_1, atI_0, atI_1, atI_2, atI_3, atI_4, ixN_20, ixN_21, ty_bl_int, ty_bl_bool, ty_bl_str, ty_bl_tuple, ty_bl_list, ht_bl, nn_bl, mu_bl, ty_int_int, ty_int_bool, ty_int_str, ty_int_tuple, ty_int_list, ht_int, nn_int, mu_int, ty_str_int, ty_str_bool, ty_str_str, ty_str_tuple, ty_str_list, ht_str, nn_str, mu_str, ty_tup_int, ty_tup_bool, ty_tup_str, ty_tup_tuple, ty_tup_list, ht_tup, nn_tup, mu_tup, ty_lst_int, ty_lst_bool, ty_lst_str, ty_lst_tuple, ty_lst_list, ht_lst, nn_lst, mu_lst, ty_frz_int, ty_frz_bool, ty_frz_str, ty_frz_tuple, ty_frz_list, ht_frz, nn_frz, mu_frz, ty_non_int, ty_non_bool, ty_non_str, ty_non_tuple, ty_non_list, ht_non, nn_non, mu_non, List.map_cons, List.map_nil, exists_eq_left', decide_eq_true_eq, exists_eq_left, List.length_cons, List.length_nil, Nat.reduceAdd, Int.reduceEq, Int.reduceLT, Int.reduceLE, Int.reduceNeg, decide_true, decide_false, Cl.own.injEq, D.tup.injEq, List.mem_cons, List.not_mem_nil, or_false, forall_eq_or_imp, forall_eq, Option.some.injEq, strOk_digits, strOk_zero, strOk_told, strOk_refused, strOk_malformed, i_sow, sw_val, sw_own, br_t, br_f, br_not, br_dec, br_beq, beq_iff_eq, br_and, br_or, br_same, bb_bl, eo_ite, eo_chn, eo_not, and_1, and_2, or_1, or_2, ta_n, ta_c, to_n, to_c, cmp_in, cmp_nin, inok_i, inok_int, inok_str, inok_tup, any_ints, scl_int, scl_str, scl_bl, scl_non, sizeLine, Nat.reducePow, blt_maxl, blt_minl, Int.cast_ofNat_Int, st_rexc, rx_ref, rx_nt, cmp_tt, cmn_tt, cmp_ll, cmn_ll, okD_int, okD_bl, okD_non, okD_str, okD_tup, okD_lst, okDs_nil, okDs_cons, depD_int, depD_bl, depD_non, depD_str, depD_tup, depD_lst, depDs_nil, depDs_cons, eqok_ti, eqok_li, eqok_t, eqok_l, okDs_ints, depDs_ints, eq_int, eq_bl, eq_str, eq_non, eq_tup, eq_lst, eqs_nil, eqs_nc, eqs_cn, eqs_ints, eqs_cons, Nat.max_self, Nat.zero_max, Nat.max_zero, Nat.zero_add, Nat.le_refl, Nat.zero_le, pkv_val, pkv_own, evv_val, evv_own, rtv_val, rtv_own, rd_dat, rd_slot, dm_val, dm_own, ev_var, pk_var, rt_var, pk_int, rt_int, pk_bl, rt_bl, pk_non, rt_non, pk_str, rt_str, pk_fnv, rt_fnv, pk_gint, rt_gint, pk_bin, rt_bin, pk_neg, rt_neg, pk_not, rt_not, pk_cmp, rt_cmp, pk_chn, rt_chn, pk_isn, rt_isn, pk_ntn, rt_ntn, pk_and, rt_and, pk_or, rt_or, pk_ite, rt_ite, pk_tup, rt_tup, pk_lst, rt_lst, pk_call, rt_call, pk_cio, rt_cio, pk_clv, rt_clv, pk_blt, rt_blt, pk_isi, rt_isi, pk_ix, rt_ix, pk_slc, rt_slc, pk_rev, rt_rev, pk_lrng, rt_lrng, pk_lc, rt_lc, pk_met, rt_met, S0_eq, S1_eq, S2_eq, S3_eq, S4_eq, S5_eq, S6_eq, M.isint_eq, M.iscnt_eq, M.chkcnt_eq, M.isrow_eq, M.isword_eq, M.state_eq, M.take_eq, M.great_eq, M.says_eq, M.same_eq, M.told_eq, M.allmal_eq, M.badD_eq, M.toldX_mal, M.toldX_ref, M.isI_int, M.isI_bl, M.isI_non, M.isI_str, M.isI_tup, M.isI_lst, M.cnt_i, M.cnt_bl, M.cnt_non, M.cnt_str, M.cnt_tup, M.cnt_lst, M.says_bl, M.says_int, M.says_non, M.isRow_tup, M.isRow_ints, M.isRow_int, M.isRow_bl, M.isRow_non, M.isRow_str, M.isRow_lst, M.rowOk_int, M.rowOk_bl, M.rowOk_non, M.rowOk_str, M.rowOk_lst, M.rowOk_ints, M.rowOk_tup, M.isWord_ints, M.seen_int, M.seen_bl, M.seen_str, M.seen_non, M.seen_lst, M.seen_ints, M.seen_tup, M.due_int, M.due_bl, M.due_str, M.due_non, M.due_t1, M.due_t2, M.due_t3, M.due_t4, M.due_t5, M.due_t6, M.due_l2, M.due_l3, M.due_l4, M.due_l5, M.due_l6, M.same_int, M.same_bl, M.same_str, M.same_non, M.same_tup, M.same_tlst, M.sames_nil, M.sames_cons, List.all_cons, List.all_nil, em, List.replicate_succ, List.replicate_zero, and_self, imp_self, List.any_cons, List.any_nil, Bool.or_true, Bool.true_or, Bool.or_false, Bool.false_or, Bool.or_self, Bool.and_self, Int.reduceAdd, Int.reduceSub, Int.reduceMul, Nat.reduceLeDiff, Nat.reduceLT, Nat.reduceEqDiff, Int.reduceAbs, Int.reduceToNat, Int.toNat_natCast, s_is_integer, fr_is_integer, p_is_integer, s_is_whole_row, fr_is_whole_row, p_is_whole_row, s_is_ring, fr_is_ring, p_is_ring, s_is_spot, fr_is_spot, p_is_spot, s_check_spots, fr_check_spots, p_check_spots, s_spot_plus, fr_spot_plus, p_spot_plus, s_spot_less, fr_spot_less, p_spot_less, s_spot_times, fr_spot_times, p_spot_times, s_spot_product, fr_spot_product, p_spot_product, s_spot_norm, fr_spot_norm, p_spot_norm, s_spot_turned, fr_spot_turned, p_spot_turned, s_spot_over, fr_spot_over, p_spot_over, s_spot_quotient, fr_spot_quotient, p_spot_quotient, s_is_plane_base, fr_is_plane_base, p_is_plane_base, s_plain_digits, fr_plain_digits, p_plain_digits, s_plane_step, fr_plane_step, p_plane_step, s_is_gauss_base, fr_is_gauss_base, p_is_gauss_base, s__law_state, fr__law_state, p__law_state, s__law_take, fr__law_take, p__law_take, s__law_says, fr__law_says, p__law_says, s__law_is_whole, fr__law_is_whole, p__law_is_whole, s__law_same_v, fr__law_same_v, p__law_same_v, s__law_same_0, fr__law_same_0, p__law_same_0, s__law_same_1, fr__law_same_1, p__law_same_1, s__law_same_2, fr__law_same_2, p__law_same_2, s__law_same_3, fr__law_same_3, p__law_same_3, s__law_same_4, fr__law_same_4, p__law_same_4, s__law_told, fr__law_told, p__law_told, s__law_all_malformed, fr__law_all_malformed, p__law_all_malformed, s__law_product, fr__law_product, p__law_product, s__law_norm, fr__law_norm, p__law_norm, s__law_over_spot, fr__law_over_spot, p__law_over_spot, s__law_less, fr__law_less, p__law_less, s__law_ring, fr__law_ring, p__law_ring, s__law_plane, fr__law_plane, p__law_plane, s__law_step, fr__law_step, p__law_step, s__law_spot, fr__law_spot, p__law_spot, s__law_is_spot, fr__law_is_spot, p__law_is_spot, s__law_is_base, fr__law_is_base, p__law_is_base, s_law, fr_law, p_law, v_7, v_9, v_10, v_11, v_13, v_14, v_16, sn_expr, sn_asg, sn_asgl, sn_unp, sn_par, sn_app, sn_seti, sn_tr, so_ifn]))
local macro_rules
  | `(tactic| ac_nf0) => `(tactic| ((repeat' (with_reducible refine And.intro ?_ ?_)) <;> first | omega | exact mulL (by omega) (by omega) | exact mulR (by omega) (by omega) | exact divOk (by omega) (by omega) | (with_reducible rfl) | assumption | (unfold sizeLine; omega) | (simp only [sizeLine, List.length_cons, List.length_nil, List.length_map, List.length_append]; omega) | skip))
set_option hygiene false in
local macro_rules
  | `(tactic| simp_all_arith!) => `(tactic| repeat' first | exact h1 _ _ | exact h2 _ | exact id | exact False.elim | refine And.imp ?_ ?_ | refine ite_mono ?_ ?_ | refine br_mono ?_ ?_ | (refine all_mono ?_; intro _) | (refine ex_mono ?_; intro _) | split)
abbrev Pt := Int × Int
abbrev pt (p : Pt) : D := .tup [.int p.1, .int p.2]
def ptD : D → Pt
  | .tup [.int a, .int b] => (a, b)
  | _ => (0, 0)
theorem ptD_eq {a b : Int} : ptD (.tup [.int a, .int b]) = (a, b) := by cases a <;> rfl
def most : Int := 1000000000000
def prod (r z w : Pt) : Pt := (z.1 * w.1 - r.2 * z.2 * w.2, z.1 * w.2 + z.2 * w.1 + r.1 * z.2 * w.2)
def norm (r z : Pt) : Int := z.1 * z.1 + r.1 * z.1 * z.2 + r.2 * z.2 * z.2
def conj (r b : Pt) : Pt := (b.1 + r.1 * b.2, -b.2)
def quot (r z b : Pt) : Option Pt :=
  let own := prod r z (conj r b)
  if own.1.fmod (norm r b) ≠ 0 ∨ own.2.fmod (norm r b) ≠ 0 then none else some (own.1.fdiv (norm r b), own.2.fdiv (norm r b))
def less (z w : Pt) : Pt := (z.1 - w.1, z.2 - w.2)
def optD : Option Pt → D
  | none => .non
  | some p => pt p
def ab (i : Int) : Int := if i < 0 then -i else i
def within (m : Int) (p : Pt) : Bool := decide (ab p.1 ≤ m) && decide (ab p.2 ≤ m)
def isSpot (d : D) : Bool := match d with
  | .tup [.int a, .int b] => within most (a, b)
  | _ => false
def ringN (r : Pt) : Bool := decide (ab r.1 ≤ 20) && decide (ab r.2 ≤ 20) && decide (r.1 * r.1 < 4 * r.2)
def isRing (t n : D) : Bool := match t, n with
  | .int t, .int n => ringN (t, n)
  | _, _ => false
def ringD (r : D) : Bool := match r with
  | .tup [t, n] => isRing t n
  | _ => false
/-- the ring and the numbers are looked at first -/
def chkS (r : D) (zs : List D) : Bool := ringD r && zs.all isSpot
def sp_is_ring : Sp2 := fun t n P _ => hasTy t = true ∧ hasTy n = true ∧ P (.bl (isRing t n)) .non
def sp_is_spot : Sp1 := fun d P _ => M.rowOk d ∧ P (.bl (isSpot d)) .non
def sp_check_spots : Sp2 := fun r zs P X => match zs with
  | .tup zs => M.rowOk r ∧ zs.length ≤ sizeLine ∧ (∀ z ∈ zs, M.rowOk z) ∧ br (chkS r zs) (P .non .non) (X .mal)
  | _ => False
def two (f : Pt → Pt → Pt) : Sp2 := fun z w P _ => match z, w with
  | .tup [.int a, .int b], .tup [.int c, .int d] => P (pt (f (a, b) (c, d))) .non
  | _, _ => False
def sp_spot_plus : Sp2 := two fun z w => (z.1 + w.1, z.2 + w.2)
def sp_spot_less : Sp2 := two less
def big (i : Int) : Prop := -18446744073709551616 < i ∧ i < 18446744073709551616
def sp_spot_product : Sp3 := fun r z w P _ => match r, z, w with
  | .tup [.int t, .int n], .tup [.int a, .int b], .tup [.int c, .int d] => big t ∧ big n ∧ big c ∧ big d ∧ P (pt (prod (t, n) (a, b) (c, d))) .non
  | _, _, _ => False
def sp_spot_times : Sp3 := fun r z w P X => M.rowOk r ∧ M.rowOk z ∧ M.rowOk w ∧ br (chkS r [z, w]) (P (pt (prod (ptD r) (ptD z) (ptD w))) .non) (X .mal)
def sp_spot_norm : Sp2 := fun r z P X => M.rowOk r ∧ M.rowOk z ∧ br (chkS r [z]) (P (.int (norm (ptD r) (ptD z))) .non) (X .mal)
def sp_spot_turned : Sp2 := fun r z P X => M.rowOk r ∧ M.rowOk z ∧ br (chkS r [z]) (P (pt (conj (ptD r) (ptD z))) .non) (X .mal)
def sp_spot_quotient : Sp3 := fun r z w P _ => match r, z, w with
  | .tup [.int t, .int n], .tup [.int a, .int b], .tup [.int c, .int d] => ringN (t, n) = true ∧ within most (c, d) = true ∧ ¬ (c = 0 ∧ d = 0) ∧ P (optD (quot (t, n) (a, b) (c, d))) .non
  | _, _, _ => False
def sp_spot_over : Sp3 := fun r z w P X => M.rowOk r ∧ M.rowOk z ∧ M.rowOk w ∧ br (chkS r [z, w]) (br (decide (ptD w = (0, 0))) (X (.ref "zero")) (P (optD (quot (ptD r) (ptD z) (ptD w))) .non)) (X .mal)
/-- no two digits differ by a multiple of the base -/
def unlike (r b : Pt) (zs : List Pt) : Bool := (List.range zs.length).all fun i => (zs.take i).all fun w => (quot r (less (zs.getD i (0, 0)) w) b).isNone
def baseP (r b : Pt) (zs : List Pt) : Bool := within 100 b && zs.all (within 100) && decide (2 ≤ norm r b) && decide (norm r b ≤ 60) && decide ((zs.length : Int) = norm r b) && zs.contains (0, 0) && unlike r b zs
def baseB (r : Pt) (b ds : D) : Bool := isSpot b && (match ds with
  | .tup xs => xs.all isSpot && baseP r (ptD b) (xs.map ptD)
  | _ => false)
theorem baseB_eq {r b : Pt} {zs : List Pt} (h1 : within most b = true) (h2 : zs.all (within most) = true) : baseB r (pt b) (.tup (zs.map pt)) = baseP r b zs := by
  have e1 : (zs.map pt).all isSpot = true := by
    rw [List.all_map]
    exact h2
  have e2 : (zs.map pt).map ptD = zs := by
    rw [List.map_map]
    conv => rhs; rw [← List.map_id zs]
    congr 1
  have e3 : isSpot (pt b) = true := h1
  unfold baseB
  rw [e3]
  dsimp only
  rw [e1, e2]
  rfl
def digOk (d : D) : Prop := hasTy d = true ∧ ∀ xs, d = .tup xs → xs.length ≤ 1000 ∧ ∀ x ∈ xs, M.rowOk x
def sp_is_plane_base : Sp3 := fun r b d P X => M.rowOk r ∧ M.rowOk b ∧ digOk d ∧ br (ringD r) (P (.bl (baseB (ptD r) b d)) .non) (X .mal)
/-- the step of an expansion -/
def stepF (r b z : Pt) : Nat → List Pt → D
  | _, [] => .non
  | k, d :: ds => match quot r (less z d) b with
    | some q => .tup [.int (k : Nat), pt q]
    | none => stepF r b z (k + 1) ds
def sp_plane_step : Sp4 := fun r b ds z P _ => ∃ (r' b' z' : Pt) (zs : List Pt), r = pt r' ∧ b = pt b' ∧ ds = .tup (zs.map pt) ∧ z = pt z' ∧ ringN r' = true ∧ within most b' = true ∧ ¬ (b'.1 = 0 ∧ b'.2 = 0) ∧ zs.length ≤ sizeLine ∧ P (stepF r' b' z' 0 zs) .non
def sp_is_gauss_base : Sp1 := fun d P X => M.rowOk d ∧ br (isSpot d) (P (.bl (decide ((ptD d).1 ≤ -1) && decide (ab (ptD d).2 = 1))) .non) (X .mal)
def plainZ (n : Int) : List Pt := (List.range n.toNat).map fun (k : Nat) => (((k : Nat) : Int), (0 : Int))
def normB (r b : Pt) : Bool := decide (2 ≤ norm r b) && decide (norm r b ≤ 60) && within 100 b
def sp_plain_digits : Sp2 := fun r b P X => M.rowOk r ∧ M.rowOk b ∧ br (chkS r [b])
    (br (normB (ptD r) (ptD b)) (br (baseP (ptD r) (ptD b) (plainZ (norm (ptD r) (ptD b)))) (P (.tup ((plainZ (norm (ptD r) (ptD b))).map pt)) .non) (X (.ref "digits"))) (X .mal)) (X .mal)
def sp__law_product : Sp3 := sp_spot_product
def sp__law_norm : Sp2 := fun r z P _ => match r, z with
  | .tup [.int t, .int n], .tup [.int a, .int b] => big t ∧ big n ∧ big a ∧ big b ∧ P (.int (norm (t, n) (a, b))) .non
  | _, _ => False
def sp__law_over_spot : Sp3 := sp_spot_quotient
def sp__law_less : Sp2 := sp_spot_less
def rings : List Pt := [(0, 1), (-1, 1), (0, 2), (1, 2), (0, 3), (1, 1), (-3, 4)]
def st1 (f : D → (D → D → Prop) → Prop) : Sp1 := fun s P _ => match s with
  | .lst [.int a, .int b] => f s P
  | _ => False
def sp__law_ring : Sp1 := st1 fun _ P => ∀ (t n : Int) (a' b' : Int), (t, n) ∈ rings → P (.tup [.int t, .int n]) (.lst [.int a', .int b'])
def sp__law_spot : Sp1 := st1 fun _ P => ∀ (u v : Int) (a' b' : Int), within 20000060 (u, v) = true → P (.tup [.int u, .int v]) (.lst [.int a', .int b'])
def sp__law_step : Sp4 := sp_plane_step
def sp__law_is_spot : Sp1 := sp_is_spot
/-- (the ring is one) -/
def sp__law_is_base : Sp3 := fun r b d P _ => ∃ r' : Pt, r = pt r' ∧ ringN r' = true ∧ M.rowOk b ∧ digOk d ∧ P (.bl (baseB r' b d)) .non
/-- a base with digits: any, but with what is wanted of them -/
def sp__law_plane : Sp2 := fun s r P _ => match s, r with
  | .lst [.int a, .int b], .tup [.int t, .int n] => (t, n) ∈ rings ∧ ∀ (u v : Int) (zs : List Pt) (a' b' : Int), within 5 (u, v) = true → 2 ≤ norm (t, n) (u, v) → norm (t, n) (u, v) ≤ 13 → zs.length ≤ 13 → 2 ≤ zs.length → (∀ z ∈ zs, within 90 z = true) →
      P (.tup [.tup [.int u, .int v], .tup (zs.map pt)]) (.lst [.int a', .int b'])
  | _, _ => False
section
variable {a b c d : D} {P P' : D → D → Prop} {X X' : Exn → Prop} (h1 : ∀ d e, P d e → P' d e) (h2 : ∀ x, X x → X' x)
include h1 h2
theorem mm_spot_times : sp_spot_times a b c P X → sp_spot_times a b c P' X' := by unfold sp_spot_times; simp_all_arith!
theorem mm_spot_norm : sp_spot_norm a b P X → sp_spot_norm a b P' X' := by unfold sp_spot_norm; simp_all_arith!
theorem mm_spot_turned : sp_spot_turned a b P X → sp_spot_turned a b P' X' := by unfold sp_spot_turned; simp_all_arith!
theorem mm_spot_over : sp_spot_over a b c P X → sp_spot_over a b c P' X' := by unfold sp_spot_over; simp_all_arith!
theorem mm_is_gauss_base : sp_is_gauss_base a P X → sp_is_gauss_base a P' X' := by unfold sp_is_gauss_base; simp_all_arith!
theorem mm_is_plane_base : sp_is_plane_base a b c P X → sp_is_plane_base a b c P' X' := by unfold sp_is_plane_base; simp_all_arith!
theorem mm_plain_digits : sp_plain_digits a b P X → sp_plain_digits a b P' X' := by unfold sp_plain_digits; simp_all_arith!
end
end Pd.K42

/-! The defs of the text in the short syntax (printed by gen.py). -/
namespace Pd.K42
open L2 PyProof.Rows PySem.Spec PySem

def top (i : Nat) : Stmt := PySem.Challenge.pw_radixroads_k42_whole_numbers_and_bases_o.main.body.getD i (.Pass ⟨0, 0, 0, 0⟩)
/-- 0: is_integer; slots 0 value -/
def b_is_integer : S :=
  .seq (.ret (.and (.cons (.isi (.var 0) .int) (.cons (.not (.isi (.var 0) .bool)) .nil)))) .nil
def f_is_integer : Fd := ⟨"is_integer", defArgs (top 5), defBody (top 5), defScope (top 5), ["value"], ["value"], b_is_integer, false, false, 1, M.isint⟩
/-- 1: is_whole_row; slots 0 value, 1 x -/
def b_is_whole_row : S :=
  .seq (.ret (.and (.cons (.isi (.var 0) .tuple) (.cons (.blt .all (.cons (.lc [1] false (.seq (.var 0)) .nil (.call 0 (.cons (.var 1) .nil))) .nil)) .nil)))) .nil
def f_is_whole_row : Fd := ⟨"is_whole_row", defArgs (top 6), defBody (top 6), defScope (top 6), ["value", "x"], ["value"], b_is_whole_row, false, false, 2, M.isrow⟩
/-- 2: is_ring; slots 0 t, 1 n -/
def b_is_ring : S :=
  .seq (.ret (.and (.cons (.call 1 (.cons (.tup (.cons (.var 0) (.cons (.var 1) .nil))) .nil)) (.cons (.cmp .le (.blt .max (.cons (.blt .abs (.cons (.var 0) .nil)) (.cons (.blt .abs (.cons (.var 1) .nil)) .nil))) (.int 20)) (.cons (.cmp .lt (.bin .mul (.var 0) (.var 0)) (.bin .mul (.int 4) (.var 1))) .nil))))) .nil
def f_is_ring : Fd := ⟨"is_ring", defArgs (top 9), defBody (top 9), defScope (top 9), ["t", "n"], ["t", "n"], b_is_ring, false, false, 3, S2 sp_is_ring⟩
/-- 3: is_spot; slots 0 value -/
def b_is_spot : S :=
  .seq (.ret (.and (.cons (.call 1 (.cons (.var 0) .nil)) (.cons (.cmp .eq (.blt .len (.cons (.var 0) .nil)) (.int 2)) (.cons (.cmp .le (.blt .max (.cons (.blt .abs (.cons (.ix (.var 0) (.int 0)) .nil)) (.cons (.blt .abs (.cons (.ix (.var 0) (.int 1)) .nil)) .nil))) (.gint "MOST_ITEM" 1000000000000)) .nil))))) .nil
def f_is_spot : Fd := ⟨"is_spot", defArgs (top 10), defBody (top 10), defScope (top 10), ["value"], ["value"], b_is_spot, false, false, 3, S1 sp_is_spot⟩
/-- 4: check_spots; slots 0 ring, 1 spots, 2 z -/
def b_check_spots : S :=
  .seq (.ife (.or (.cons (.not (.tst (.call 1 (.cons (.var 0) .nil)))) (.cons (.tst (.cmp .ne (.blt .len (.cons (.var 0) .nil)) (.int 2))) (.cons (.not (.tst (.call 2 (.cons (.ix (.var 0) (.int 0)) (.cons (.ix (.var 0) (.int 1)) .nil))))) .nil)))) (.seq (.rmal "a ring") .nil) (.nil))
  (.seq (.ife (.not (.tst (.blt .all (.cons (.lc [2] false (.seq (.var 1)) .nil (.call 3 (.cons (.var 2) .nil))) .nil)))) (.seq (.rmal "a number") .nil) (.nil)) .nil)
def f_check_spots : Fd := ⟨"check_spots", defArgs (top 11), defBody (top 11), defScope (top 11), ["ring", "spots", "z"], ["ring", "spots"], b_check_spots, false, false, 4, S2 sp_check_spots⟩
/-- 5: spot_plus; slots 0 one, 1 two -/
def b_spot_plus : S :=
  .seq (.ret (.tup (.cons (.bin .add (.ix (.var 0) (.int 0)) (.ix (.var 1) (.int 0))) (.cons (.bin .add (.ix (.var 0) (.int 1)) (.ix (.var 1) (.int 1))) .nil)))) .nil
def f_spot_plus : Fd := ⟨"spot_plus", defArgs (top 12), defBody (top 12), defScope (top 12), ["one", "two"], ["one", "two"], b_spot_plus, false, false, 1, S2 sp_spot_plus⟩
/-- 6: spot_less; slots 0 one, 1 two -/
def b_spot_less : S :=
  .seq (.ret (.tup (.cons (.bin .sub (.ix (.var 0) (.int 0)) (.ix (.var 1) (.int 0))) (.cons (.bin .sub (.ix (.var 0) (.int 1)) (.ix (.var 1) (.int 1))) .nil)))) .nil
def f_spot_less : Fd := ⟨"spot_less", defArgs (top 13), defBody (top 13), defScope (top 13), ["one", "two"], ["one", "two"], b_spot_less, false, false, 1, S2 sp_spot_less⟩
/-- 7: spot_times; slots 0 ring, 1 one, 2 two -/
def b_spot_times : S :=
  .seq (.expr (.call 4 (.cons (.var 0) (.cons (.tup (.cons (.var 1) (.cons (.var 2) .nil))) .nil))))
  (.seq (.ret (.call 8 (.cons (.var 0) (.cons (.var 1) (.cons (.var 2) .nil))))) .nil)
def f_spot_times : Fd := ⟨"spot_times", defArgs (top 14), defBody (top 14), defScope (top 14), ["ring", "one", "two"], ["ring", "one", "two"], b_spot_times, false, false, 5, S3 sp_spot_times⟩
/-- 8: spot_product; slots 0 ring, 1 one, 2 two, 3 t, 4 n, 5 a, 6 b, 7 c, 8 d -/
def b_spot_product : S :=
  .seq (.unp [3, 4] (.var 0))
  (.seq (.unp [5, 6] (.var 1))
  (.seq (.unp [7, 8] (.var 2))
  (.seq (.ret (.tup (.cons (.bin .sub (.bin .mul (.var 5) (.var 7)) (.bin .mul (.bin .mul (.var 4) (.var 6)) (.var 8))) (.cons (.bin .add (.bin .add (.bin .mul (.var 5) (.var 8)) (.bin .mul (.var 6) (.var 7))) (.bin .mul (.bin .mul (.var 3) (.var 6)) (.var 8))) .nil)))) .nil)))
def f_spot_product : Fd := ⟨"spot_product", defArgs (top 15), defBody (top 15), defScope (top 15), ["ring", "one", "two", "t", "n", "a", "b", "c", "d"], ["ring", "one", "two"], b_spot_product, false, false, 1, S3 sp_spot_product⟩
/-- 9: spot_norm; slots 0 ring, 1 z, 2 t, 3 n -/
def b_spot_norm : S :=
  .seq (.expr (.call 4 (.cons (.var 0) (.cons (.tup (.cons (.var 1) .nil)) .nil))))
  (.seq (.unp [2, 3] (.var 0))
  (.seq (.ret (.bin .add (.bin .add (.bin .mul (.ix (.var 1) (.int 0)) (.ix (.var 1) (.int 0))) (.bin .mul (.bin .mul (.var 2) (.ix (.var 1) (.int 0))) (.ix (.var 1) (.int 1)))) (.bin .mul (.bin .mul (.var 3) (.ix (.var 1) (.int 1))) (.ix (.var 1) (.int 1))))) .nil))
def f_spot_norm : Fd := ⟨"spot_norm", defArgs (top 16), defBody (top 16), defScope (top 16), ["ring", "z", "t", "n"], ["ring", "z"], b_spot_norm, false, false, 5, S2 sp_spot_norm⟩
/-- 10: spot_turned; slots 0 ring, 1 z -/
def b_spot_turned : S :=
  .seq (.expr (.call 4 (.cons (.var 0) (.cons (.tup (.cons (.var 1) .nil)) .nil))))
  (.seq (.ret (.tup (.cons (.bin .add (.ix (.var 1) (.int 0)) (.bin .mul (.ix (.var 0) (.int 0)) (.ix (.var 1) (.int 1)))) (.cons (.neg (.ix (.var 1) (.int 1))) .nil)))) .nil)
def f_spot_turned : Fd := ⟨"spot_turned", defArgs (top 17), defBody (top 17), defScope (top 17), ["ring", "z"], ["ring", "z"], b_spot_turned, false, false, 5, S2 sp_spot_turned⟩
/-- 11: spot_over; slots 0 ring, 1 z, 2 base -/
def b_spot_over : S :=
  .seq (.expr (.call 4 (.cons (.var 0) (.cons (.tup (.cons (.var 1) (.cons (.var 2) .nil))) .nil))))
  (.seq (.ife (.tst (.cmp .eq (.var 2) (.tup (.cons (.int 0) (.cons (.int 0) .nil))))) (.seq (.rexc .ref (.str "zero")) .nil) (.nil))
  (.seq (.ret (.call 12 (.cons (.var 0) (.cons (.var 1) (.cons (.var 2) .nil))))) .nil))
def f_spot_over : Fd := ⟨"spot_over", defArgs (top 18), defBody (top 18), defScope (top 18), ["ring", "z", "base"], ["ring", "z", "base"], b_spot_over, false, false, 5, S3 sp_spot_over⟩
/-- 12: spot_quotient; slots 0 ring, 1 z, 2 base, 3 t, 4 n, 5 size, 6 own -/
def b_spot_quotient : S :=
  .seq (.unp [3, 4] (.var 0))
  (.seq (.asg 5 (.bin .add (.bin .add (.bin .mul (.ix (.var 2) (.int 0)) (.ix (.var 2) (.int 0))) (.bin .mul (.bin .mul (.var 3) (.ix (.var 2) (.int 0))) (.ix (.var 2) (.int 1)))) (.bin .mul (.bin .mul (.var 4) (.ix (.var 2) (.int 1))) (.ix (.var 2) (.int 1)))))
  (.seq (.asg 6 (.call 8 (.cons (.var 0) (.cons (.var 1) (.cons (.tup (.cons (.bin .add (.ix (.var 2) (.int 0)) (.bin .mul (.var 3) (.ix (.var 2) (.int 1)))) (.cons (.neg (.ix (.var 2) (.int 1))) .nil))) .nil)))))
  (.seq (.ife (.or (.cons (.tst (.cmp .ne (.bin .mod (.ix (.var 6) (.int 0)) (.var 5)) (.int 0))) (.cons (.tst (.cmp .ne (.bin .mod (.ix (.var 6) (.int 1)) (.var 5)) (.int 0))) .nil))) (.seq (.ret .non) .nil) (.nil))
  (.seq (.ret (.tup (.cons (.bin .fdiv (.ix (.var 6) (.int 0)) (.var 5)) (.cons (.bin .fdiv (.ix (.var 6) (.int 1)) (.var 5)) .nil)))) .nil))))
def f_spot_quotient : Fd := ⟨"spot_quotient", defArgs (top 19), defBody (top 19), defScope (top 19), ["ring", "z", "base", "t", "n", "size", "own"], ["ring", "z", "base"], b_spot_quotient, false, false, 2, S3 sp_spot_quotient⟩
/-- 13: is_plane_base; slots 0 ring, 1 base, 2 digits, 3 z, 4 n, 5 k, 6 w -/
def b_is_plane_base : S :=
  .seq (.expr (.call 4 (.cons (.var 0) (.cons (.tup .nil) .nil))))
  (.seq (.ife (.or (.cons (.not (.tst (.call 3 (.cons (.var 1) .nil)))) (.cons (.not (.tst (.isi (.var 2) .tuple))) (.cons (.not (.tst (.blt .all (.cons (.lc [3] false (.seq (.var 2)) .nil (.call 3 (.cons (.var 3) .nil))) .nil)))) .nil)))) (.seq (.ret (.bl false)) .nil) (.nil))
  (.seq (.ife (.tst (.cmp .gt (.blt .max (.cons (.lc [3] false (.seq (.bin .add (.var 2) (.tup (.cons (.var 1) .nil)))) .nil (.blt .max (.cons (.blt .abs (.cons (.ix (.var 3) (.int 0)) .nil)) (.cons (.blt .abs (.cons (.ix (.var 3) (.int 1)) .nil)) .nil)))) .nil)) (.int 100))) (.seq (.ret (.bl false)) .nil) (.nil))
  (.seq (.asg 4 (.call 9 (.cons (.var 0) (.cons (.var 1) .nil))))
  (.seq (.ife (.or (.cons (.not (.tst (.chn .le .le (.int 2) (.var 4) (.int 60)))) (.cons (.tst (.cmp .ne (.blt .len (.cons (.var 2) .nil)) (.var 4))) (.cons (.tst (.cmp .nin (.tup (.cons (.int 0) (.cons (.int 0) .nil))) (.var 2))) .nil)))) (.seq (.ret (.bl false)) .nil) (.nil))
  (.seq (.for_ [5, 3] true (.enm (.cons (.var 2) .nil)) (.seq (.ife (.tst (.blt .any (.cons (.lc [6] false (.seq (.slc (.var 2) .nil (.cons (.var 5) .nil))) .nil (.ntn (.call 12 (.cons (.var 0) (.cons (.call 6 (.cons (.var 3) (.cons (.var 6) .nil))) (.cons (.var 1) .nil)))))) .nil))) (.seq (.ret (.bl false)) .nil) (.nil)) .nil))
  (.seq (.ret (.bl true)) .nil))))))
def f_is_plane_base : Fd := ⟨"is_plane_base", defArgs (top 20), defBody (top 20), defScope (top 20), ["ring", "base", "digits", "z", "n", "k", "w"], ["ring", "base", "digits"], b_is_plane_base, false, false, 6, S3 sp_is_plane_base⟩
/-- 14: plain_digits; slots 0 ring, 1 base, 2 n, 3 found, 4 k -/
def b_plain_digits : S :=
  .seq (.expr (.call 4 (.cons (.var 0) (.cons (.tup (.cons (.var 1) .nil)) .nil))))
  (.seq (.asg 2 (.call 9 (.cons (.var 0) (.cons (.var 1) .nil))))
  (.seq (.ife (.or (.cons (.not (.tst (.chn .le .le (.int 2) (.var 2) (.int 60)))) (.cons (.tst (.cmp .gt (.blt .max (.cons (.blt .abs (.cons (.ix (.var 1) (.int 0)) .nil)) (.cons (.blt .abs (.cons (.ix (.var 1) (.int 1)) .nil)) .nil))) (.int 100))) .nil))) (.seq (.rmal "a base") .nil) (.nil))
  (.seq (.asg 3 (.blt .tuple (.cons (.lc [4] false (.rng (.cons (.var 2) .nil)) .nil (.tup (.cons (.var 4) (.cons (.int 0) .nil)))) .nil)))
  (.seq (.ife (.not (.tst (.call 13 (.cons (.var 0) (.cons (.var 1) (.cons (.var 3) .nil)))))) (.seq (.rexc .ref (.str "digits")) .nil) (.nil))
  (.seq (.ret (.var 3)) .nil)))))
def f_plain_digits : Fd := ⟨"plain_digits", defArgs (top 21), defBody (top 21), defScope (top 21), ["ring", "base", "n", "found", "k"], ["ring", "base"], b_plain_digits, false, false, 7, S2 sp_plain_digits⟩
/-- 15: plane_step; slots 0 ring, 1 base, 2 digits, 3 z, 4 k, 5 d, 6 own -/
def b_plane_step : S :=
  .seq (.for_ [4, 5] true (.enm (.cons (.var 2) .nil)) (.seq (.asg 6 (.call 12 (.cons (.var 0) (.cons (.call 6 (.cons (.var 3) (.cons (.var 5) .nil))) (.cons (.var 1) .nil)))))
    (.seq (.ife (.tst (.ntn (.var 6))) (.seq (.ret (.tup (.cons (.var 4) (.cons (.var 6) .nil)))) .nil) (.nil)) .nil)))
  (.seq (.ret .non) .nil)
def f_plane_step : Fd := ⟨"plane_step", defArgs (top 22), defBody (top 22), defScope (top 22), ["ring", "base", "digits", "z", "k", "d", "own"], ["ring", "base", "digits", "z"], b_plane_step, false, false, 3, S4 sp_plane_step⟩
/-- 16: is_gauss_base; slots 0 base -/
def b_is_gauss_base : S :=
  .seq (.ife (.not (.tst (.call 3 (.cons (.var 0) .nil)))) (.seq (.rmal "a number") .nil) (.nil))
  (.seq (.ret (.and (.cons (.cmp .le (.ix (.var 0) (.int 0)) (.neg (.int 1))) (.cons (.cmp .eq (.blt .abs (.cons (.ix (.var 0) (.int 1)) .nil)) (.int 1)) .nil)))) .nil)
def f_is_gauss_base : Fd := ⟨"is_gauss_base", defArgs (top 23), defBody (top 23), defScope (top 23), ["base"], ["base"], b_is_gauss_base, false, false, 4, S1 sp_is_gauss_base⟩
/-- 17: _law_state; slots 0 script, 1 seed, 2 total, 3 cell -/
def b__law_state : S :=
  .seq (.asg 1 (.int 0))
  (.seq (.asg 2 (.int 1))
  (.seq (.for_ [3] false (.seq (.slc (.var 0) .nil (.cons (.int 63) .nil))) (.seq (.asg 1 (.bin .add (.bin .mul (.var 1) (.int 1000003)) (.blt .abs (.cons (.var 3) .nil))))
    (.seq (.asg 2 (.bin .mod (.blt .int (.cons (.bin .add (.bin .mul (.var 2) (.int 48271)) (.var 3)) .nil)) (.int 2147483647))) .nil)))
  (.seq (.ret (.lst (.cons (.var 1) (.cons (.ite (.tst (.cmp .ne (.var 2) (.int 1973665155))) (.var 2) (.int 7)) .nil)))) .nil)))
def f__law_state : Fd := ⟨"_law_state", defArgs (top 25), defBody (top 25), defScope (top 25), ["script", "seed", "total", "cell"], ["script"], b__law_state, false, true, 1, M.state⟩
/-- 18: _law_take; slots 0 state, 1 m, 2 value -/
def b__law_take : S :=
  .seq (.ife (.tst (.cmp .gt (.ix (.var 0) (.int 0)) (.int 0))) (.seq (.asg 2 (.bin .mod (.blt .int (.cons (.ix (.var 0) (.int 0)) .nil)) (.var 1)))
    (.seq (.seti 0 (.int 0) (.bin .fdiv (.ix (.var 0) (.int 0)) (.var 1)))
    (.seq (.ret (.var 2)) .nil))) (.nil))
  (.seq (.seti 0 (.int 1) (.bin .mod (.blt .int (.cons (.bin .add (.bin .mul (.ix (.var 0) (.int 1)) (.int 48271)) (.int 11)) .nil)) (.int 2147483647)))
  (.seq (.ret (.bin .mod (.blt .int (.cons (.bin .fdiv (.ix (.var 0) (.int 1)) (.int 7)) .nil)) (.var 1))) .nil))
def f__law_take : Fd := ⟨"_law_take", defArgs (top 26), defBody (top 26), defScope (top 26), ["state", "m", "value"], ["state", "m"], b__law_take, true, false, 1, M.take⟩
/-- 19: _law_says; slots 0 value, 1 due -/
def b__law_says : S :=
  .seq (.ret (.and (.cons (.isi (.var 0) .bool) (.cons (.cmp .eq (.var 0) (.var 1)) .nil)))) .nil
def f__law_says : Fd := ⟨"_law_says", defArgs (top 27), defBody (top 27), defScope (top 27), ["value", "due"], ["value", "due"], b__law_says, false, false, 1, M.says⟩
/-- 20: _law_is_whole; slots 0 value -/
def b__law_is_whole : S :=
  .seq (.ret (.and (.cons (.isi (.var 0) .int) (.cons (.not (.isi (.var 0) .bool)) .nil)))) .nil
def f__law_is_whole : Fd := ⟨"_law_is_whole", defArgs (top 28), defBody (top 28), defScope (top 28), ["value"], ["value"], b__law_is_whole, false, false, 1, M.isint⟩
/-- 21: _law_same_v; slots 0 one, 1 two, 2 k -/
def b__law_same_v : S :=
  .nil
def f__law_same_v : Fd := ⟨"_law_same", defArgs (top 29), defBody (top 29), defScope (top 29), ["one", "two", "k"], ["one", "two"], b__law_same_v, false, false, 0, fun _ _ _ => False⟩
/-- 22: _law_same_0; slots 0 one, 1 two, 2 k -/
def b__law_same_0 : S :=
  .seq (.ife (.tst (.isi (.var 1) .bool)) (.seq (.ret (.and (.cons (.isi (.var 0) .bool) (.cons (.cmp .eq (.var 0) (.var 1)) .nil)))) .nil) (.nil))
  (.seq (.ife (.tst (.isi (.var 1) .tuple)) (.seq (.ret (.and (.cons (.isi (.var 0) .tuple) (.cons (.cmp .eq (.blt .len (.cons (.var 0) .nil)) (.blt .len (.cons (.var 1) .nil))) (.cons (.blt .all (.cons (.lc [2] false (.rng (.cons (.blt .len (.cons (.var 1) .nil)) .nil)) .nil (.call 21 (.cons (.ix (.var 0) (.var 2)) (.cons (.ix (.var 1) (.var 2)) .nil)))) .nil)) .nil))))) .nil) (.nil))
  (.seq (.ife (.tst (.isi (.var 1) .list)) (.seq (.ret (.and (.cons (.isi (.var 0) .tuple) (.cons (.call 21 (.cons (.var 0) (.cons (.blt .tuple (.cons (.var 1) .nil)) .nil))) .nil)))) .nil) (.nil))
  (.seq (.ife (.tst (.isi (.var 1) .str)) (.seq (.ret (.and (.cons (.isi (.var 0) .str) (.cons (.cmp .eq (.var 0) (.var 1)) .nil)))) .nil) (.nil))
  (.seq (.ife (.tst (.isn (.var 1))) (.seq (.ret (.isn (.var 0))) .nil) (.nil))
  (.seq (.ret (.and (.cons (.call 20 (.cons (.var 0) .nil)) (.cons (.cmp .eq (.var 0) (.var 1)) .nil)))) .nil)))))
def f__law_same_0 : Fd := ⟨"_law_same", defArgs (top 29), defBody (top 29), defScope (top 29), ["one", "two", "k"], ["one", "two"], b__law_same_0, false, false, 2, M.same 0⟩
/-- 23: _law_same_1; slots 0 one, 1 two, 2 k -/
def b__law_same_1 : S :=
  .seq (.ife (.tst (.isi (.var 1) .bool)) (.seq (.ret (.and (.cons (.isi (.var 0) .bool) (.cons (.cmp .eq (.var 0) (.var 1)) .nil)))) .nil) (.nil))
  (.seq (.ife (.tst (.isi (.var 1) .tuple)) (.seq (.ret (.and (.cons (.isi (.var 0) .tuple) (.cons (.cmp .eq (.blt .len (.cons (.var 0) .nil)) (.blt .len (.cons (.var 1) .nil))) (.cons (.blt .all (.cons (.lc [2] false (.rng (.cons (.blt .len (.cons (.var 1) .nil)) .nil)) .nil (.call 22 (.cons (.ix (.var 0) (.var 2)) (.cons (.ix (.var 1) (.var 2)) .nil)))) .nil)) .nil))))) .nil) (.nil))
  (.seq (.ife (.tst (.isi (.var 1) .list)) (.seq (.ret (.and (.cons (.isi (.var 0) .tuple) (.cons (.call 22 (.cons (.var 0) (.cons (.blt .tuple (.cons (.var 1) .nil)) .nil))) .nil)))) .nil) (.nil))
  (.seq (.ife (.tst (.isi (.var 1) .str)) (.seq (.ret (.and (.cons (.isi (.var 0) .str) (.cons (.cmp .eq (.var 0) (.var 1)) .nil)))) .nil) (.nil))
  (.seq (.ife (.tst (.isn (.var 1))) (.seq (.ret (.isn (.var 0))) .nil) (.nil))
  (.seq (.ret (.and (.cons (.call 20 (.cons (.var 0) .nil)) (.cons (.cmp .eq (.var 0) (.var 1)) .nil)))) .nil)))))
def f__law_same_1 : Fd := ⟨"_law_same", defArgs (top 29), defBody (top 29), defScope (top 29), ["one", "two", "k"], ["one", "two"], b__law_same_1, false, false, 3, M.same 1⟩
/-- 24: _law_same_2; slots 0 one, 1 two, 2 k -/
def b__law_same_2 : S :=
  .seq (.ife (.tst (.isi (.var 1) .bool)) (.seq (.ret (.and (.cons (.isi (.var 0) .bool) (.cons (.cmp .eq (.var 0) (.var 1)) .nil)))) .nil) (.nil))
  (.seq (.ife (.tst (.isi (.var 1) .tuple)) (.seq (.ret (.and (.cons (.isi (.var 0) .tuple) (.cons (.cmp .eq (.blt .len (.cons (.var 0) .nil)) (.blt .len (.cons (.var 1) .nil))) (.cons (.blt .all (.cons (.lc [2] false (.rng (.cons (.blt .len (.cons (.var 1) .nil)) .nil)) .nil (.call 23 (.cons (.ix (.var 0) (.var 2)) (.cons (.ix (.var 1) (.var 2)) .nil)))) .nil)) .nil))))) .nil) (.nil))
  (.seq (.ife (.tst (.isi (.var 1) .list)) (.seq (.ret (.and (.cons (.isi (.var 0) .tuple) (.cons (.call 23 (.cons (.var 0) (.cons (.blt .tuple (.cons (.var 1) .nil)) .nil))) .nil)))) .nil) (.nil))
  (.seq (.ife (.tst (.isi (.var 1) .str)) (.seq (.ret (.and (.cons (.isi (.var 0) .str) (.cons (.cmp .eq (.var 0) (.var 1)) .nil)))) .nil) (.nil))
  (.seq (.ife (.tst (.isn (.var 1))) (.seq (.ret (.isn (.var 0))) .nil) (.nil))
  (.seq (.ret (.and (.cons (.call 20 (.cons (.var 0) .nil)) (.cons (.cmp .eq (.var 0) (.var 1)) .nil)))) .nil)))))
def f__law_same_2 : Fd := ⟨"_law_same", defArgs (top 29), defBody (top 29), defScope (top 29), ["one", "two", "k"], ["one", "two"], b__law_same_2, false, false, 4, M.same 2⟩
/-- 25: _law_same_3; slots 0 one, 1 two, 2 k -/
def b__law_same_3 : S :=
  .seq (.ife (.tst (.isi (.var 1) .bool)) (.seq (.ret (.and (.cons (.isi (.var 0) .bool) (.cons (.cmp .eq (.var 0) (.var 1)) .nil)))) .nil) (.nil))
  (.seq (.ife (.tst (.isi (.var 1) .tuple)) (.seq (.ret (.and (.cons (.isi (.var 0) .tuple) (.cons (.cmp .eq (.blt .len (.cons (.var 0) .nil)) (.blt .len (.cons (.var 1) .nil))) (.cons (.blt .all (.cons (.lc [2] false (.rng (.cons (.blt .len (.cons (.var 1) .nil)) .nil)) .nil (.call 24 (.cons (.ix (.var 0) (.var 2)) (.cons (.ix (.var 1) (.var 2)) .nil)))) .nil)) .nil))))) .nil) (.nil))
  (.seq (.ife (.tst (.isi (.var 1) .list)) (.seq (.ret (.and (.cons (.isi (.var 0) .tuple) (.cons (.call 24 (.cons (.var 0) (.cons (.blt .tuple (.cons (.var 1) .nil)) .nil))) .nil)))) .nil) (.nil))
  (.seq (.ife (.tst (.isi (.var 1) .str)) (.seq (.ret (.and (.cons (.isi (.var 0) .str) (.cons (.cmp .eq (.var 0) (.var 1)) .nil)))) .nil) (.nil))
  (.seq (.ife (.tst (.isn (.var 1))) (.seq (.ret (.isn (.var 0))) .nil) (.nil))
  (.seq (.ret (.and (.cons (.call 20 (.cons (.var 0) .nil)) (.cons (.cmp .eq (.var 0) (.var 1)) .nil)))) .nil)))))
def f__law_same_3 : Fd := ⟨"_law_same", defArgs (top 29), defBody (top 29), defScope (top 29), ["one", "two", "k"], ["one", "two"], b__law_same_3, false, false, 5, M.same 3⟩
/-- 26: _law_same_4; slots 0 one, 1 two, 2 k -/
def b__law_same_4 : S :=
  .seq (.ife (.tst (.isi (.var 1) .bool)) (.seq (.ret (.and (.cons (.isi (.var 0) .bool) (.cons (.cmp .eq (.var 0) (.var 1)) .nil)))) .nil) (.nil))
  (.seq (.ife (.tst (.isi (.var 1) .tuple)) (.seq (.ret (.and (.cons (.isi (.var 0) .tuple) (.cons (.cmp .eq (.blt .len (.cons (.var 0) .nil)) (.blt .len (.cons (.var 1) .nil))) (.cons (.blt .all (.cons (.lc [2] false (.rng (.cons (.blt .len (.cons (.var 1) .nil)) .nil)) .nil (.call 25 (.cons (.ix (.var 0) (.var 2)) (.cons (.ix (.var 1) (.var 2)) .nil)))) .nil)) .nil))))) .nil) (.nil))
  (.seq (.ife (.tst (.isi (.var 1) .list)) (.seq (.ret (.and (.cons (.isi (.var 0) .tuple) (.cons (.call 25 (.cons (.var 0) (.cons (.blt .tuple (.cons (.var 1) .nil)) .nil))) .nil)))) .nil) (.nil))
  (.seq (.ife (.tst (.isi (.var 1) .str)) (.seq (.ret (.and (.cons (.isi (.var 0) .str) (.cons (.cmp .eq (.var 0) (.var 1)) .nil)))) .nil) (.nil))
  (.seq (.ife (.tst (.isn (.var 1))) (.seq (.ret (.isn (.var 0))) .nil) (.nil))
  (.seq (.ret (.and (.cons (.call 20 (.cons (.var 0) .nil)) (.cons (.cmp .eq (.var 0) (.var 1)) .nil)))) .nil)))))
def f__law_same_4 : Fd := ⟨"_law_same", defArgs (top 29), defBody (top 29), defScope (top 29), ["one", "two", "k"], ["one", "two"], b__law_same_4, false, false, 6, M.same 4⟩
/-- what is said of the defs that are handed on -/
def spv (n : Nat) : Spec := if n = 7 then f_spot_times.sp else if n = 9 then f_spot_norm.sp else if n = 10 then f_spot_turned.sp else if n = 11 then f_spot_over.sp else if n = 13 then f_is_plane_base.sp else if n = 14 then f_plain_digits.sp else if n = 16 then f_is_gauss_base.sp else fun _ _ _ => False
/-- 27: _law_told; slots 0 act, 1 given, 2 refused -/
def b__law_told : S :=
  .seq (.tr (.seq (.ife (.tst (.cmp .gt (.blt .len (.cons (.var 1) .nil)) (.int 3))) (.seq (.ret (.tup (.cons (.str "told") (.cons (.ite (.tst (.cmp .eq (.blt .len (.cons (.var 1) .nil)) (.int 4))) (.clv 0 (.cons (.ix (.var 1) (.int 0)) (.cons (.ix (.var 1) (.int 1)) (.cons (.ix (.var 1) (.int 2)) (.cons (.ix (.var 1) (.int 3)) .nil))))) (.clv 0 (.cons (.ix (.var 1) (.int 0)) (.cons (.ix (.var 1) (.int 1)) (.cons (.ix (.var 1) (.int 2)) (.cons (.ix (.var 1) (.int 3)) (.cons (.ix (.var 1) (.int 4)) .nil))))))) .nil)))) .nil) (.nil))
    (.seq (.ret (.tup (.cons (.str "told") (.cons (.ite (.tst (.cmp .eq (.blt .len (.cons (.var 1) .nil)) (.int 1))) (.clv 0 (.cons (.ix (.var 1) (.int 0)) .nil)) (.ite (.tst (.cmp .eq (.blt .len (.cons (.var 1) .nil)) (.int 2))) (.clv 0 (.cons (.ix (.var 1) (.int 0)) (.cons (.ix (.var 1) (.int 1)) .nil))) (.clv 0 (.cons (.ix (.var 1) (.int 0)) (.cons (.ix (.var 1) (.int 1)) (.cons (.ix (.var 1) (.int 2)) .nil)))))) .nil)))) .nil)) (.hnd .mal none (.tup (.cons (.str "malformed") (.cons .non .nil))) (.hnd .ref (some 2) (.tup (.cons (.str "refused") .nil)) .nil))) .nil
def f__law_told : Fd := ⟨"_law_told", defArgs (top 30), defBody (top 30), defScope (top 30), ["act", "given", "refused"], ["act", "given"], b__law_told, false, false, 8, (M.told spv)⟩
/-- 28: _law_all_malformed; slots 0 tried, 1 act, 2 given -/
def b__law_all_malformed : S :=
  .seq (.ret (.blt .all (.cons (.lc [1, 2] true (.seq (.var 0)) .nil (.cmp .eq (.call 27 (.cons (.var 1) (.cons (.var 2) .nil))) (.tup (.cons (.str "malformed") (.cons .non .nil))))) .nil))) .nil
def f__law_all_malformed : Fd := ⟨"_law_all_malformed", defArgs (top 31), defBody (top 31), defScope (top 31), ["tried", "act", "given"], ["tried"], b__law_all_malformed, false, false, 9, (M.allmal spv)⟩
/-- 29: _law_product; slots 0 ring, 1 one, 2 two -/
def b__law_product : S :=
  .seq (.ret (.tup (.cons (.bin .sub (.bin .mul (.ix (.var 1) (.int 0)) (.ix (.var 2) (.int 0))) (.bin .mul (.bin .mul (.ix (.var 0) (.int 1)) (.ix (.var 1) (.int 1))) (.ix (.var 2) (.int 1)))) (.cons (.bin .add (.bin .add (.bin .mul (.ix (.var 1) (.int 0)) (.ix (.var 2) (.int 1))) (.bin .mul (.ix (.var 1) (.int 1)) (.ix (.var 2) (.int 0)))) (.bin .mul (.bin .mul (.ix (.var 0) (.int 0)) (.ix (.var 1) (.int 1))) (.ix (.var 2) (.int 1)))) .nil)))) .nil
def f__law_product : Fd := ⟨"_law_product", defArgs (top 32), defBody (top 32), defScope (top 32), ["ring", "one", "two"], ["ring", "one", "two"], b__law_product, false, false, 1, S3 sp__law_product⟩
/-- 30: _law_norm; slots 0 ring, 1 z -/
def b__law_norm : S :=
  .seq (.ret (.bin .add (.bin .add (.bin .mul (.ix (.var 1) (.int 0)) (.ix (.var 1) (.int 0))) (.bin .mul (.bin .mul (.ix (.var 0) (.int 0)) (.ix (.var 1) (.int 0))) (.ix (.var 1) (.int 1)))) (.bin .mul (.bin .mul (.ix (.var 0) (.int 1)) (.ix (.var 1) (.int 1))) (.ix (.var 1) (.int 1))))) .nil
def f__law_norm : Fd := ⟨"_law_norm", defArgs (top 33), defBody (top 33), defScope (top 33), ["ring", "z"], ["ring", "z"], b__law_norm, false, false, 1, S2 sp__law_norm⟩
/-- 31: _law_over_spot; slots 0 ring, 1 z, 2 base, 3 own, 4 size -/
def b__law_over_spot : S :=
  .seq (.par [3, 4] (.cons (.call 29 (.cons (.var 0) (.cons (.var 1) (.cons (.tup (.cons (.bin .add (.ix (.var 2) (.int 0)) (.bin .mul (.ix (.var 0) (.int 0)) (.ix (.var 2) (.int 1)))) (.cons (.neg (.ix (.var 2) (.int 1))) .nil))) .nil)))) (.cons (.call 30 (.cons (.var 0) (.cons (.var 2) .nil))) .nil)))
  (.seq (.ret (.ite (.and (.cons (.tst (.cmp .eq (.bin .mod (.blt .int (.cons (.ix (.var 3) (.int 0)) .nil)) (.var 4)) (.int 0))) (.cons (.tst (.cmp .eq (.bin .mod (.blt .int (.cons (.ix (.var 3) (.int 1)) .nil)) (.var 4)) (.int 0))) .nil))) (.tup (.cons (.bin .fdiv (.ix (.var 3) (.int 0)) (.var 4)) (.cons (.bin .fdiv (.ix (.var 3) (.int 1)) (.var 4)) .nil))) .non)) .nil)
def f__law_over_spot : Fd := ⟨"_law_over_spot", defArgs (top 34), defBody (top 34), defScope (top 34), ["ring", "z", "base", "own", "size"], ["ring", "z", "base"], b__law_over_spot, false, false, 2, S3 sp__law_over_spot⟩
/-- 32: _law_less; slots 0 one, 1 two -/
def b__law_less : S :=
  .seq (.ret (.tup (.cons (.bin .sub (.ix (.var 0) (.int 0)) (.ix (.var 1) (.int 0))) (.cons (.bin .sub (.ix (.var 0) (.int 1)) (.ix (.var 1) (.int 1))) .nil)))) .nil
def f__law_less : Fd := ⟨"_law_less", defArgs (top 35), defBody (top 35), defScope (top 35), ["one", "two"], ["one", "two"], b__law_less, false, false, 1, S2 sp__law_less⟩
/-- 33: _law_ring; slots 0 state -/
def b__law_ring : S :=
  .seq (.ret (.ix (.lst (.cons (.tup (.cons (.int 0) (.cons (.int 1) .nil))) (.cons (.tup (.cons (.neg (.int 1)) (.cons (.int 1) .nil))) (.cons (.tup (.cons (.int 0) (.cons (.int 2) .nil))) (.cons (.tup (.cons (.int 1) (.cons (.int 2) .nil))) (.cons (.tup (.cons (.int 0) (.cons (.int 3) .nil))) (.cons (.tup (.cons (.int 1) (.cons (.int 1) .nil))) (.cons (.tup (.cons (.neg (.int 3)) (.cons (.int 4) .nil))) .nil)))))))) (.cio 18 0 (.cons (.int 7) .nil)))) .nil
def f__law_ring : Fd := ⟨"_law_ring", defArgs (top 36), defBody (top 36), defScope (top 36), ["state"], ["state"], b__law_ring, true, false, 2, S1 sp__law_ring⟩
/-- 34: _law_plane; slots 0 state, 1 ring, 2 t, 3 base, 4 size, 5 digits, 6 u, 7 v, 8 k, 9 d -/
def b__law_plane : S :=
  .seq (.for_ [2] false (.rng (.cons (.int 40) .nil)) (.seq (.asg 3 (.tup (.cons (.bin .sub (.cio 18 0 (.cons (.int 9) .nil)) (.int 4)) (.cons (.bin .sub (.cio 18 0 (.cons (.int 7) .nil)) (.int 3)) .nil))))
    (.seq (.asg 4 (.call 30 (.cons (.var 1) (.cons (.var 3) .nil))))
    (.seq (.ife (.tst (.chn .le .le (.int 2) (.var 4) (.int 13))) (.seq (.asg 5 (.lst (.cons (.tup (.cons (.int 0) (.cons (.int 0) .nil))) .nil)))
      (.seq (.for_ [6, 7] true (.seq (.bin .add (.lc [8] false (.rng (.cons (.int 8) .nil)) .nil (.tup (.cons (.bin .sub (.cio 18 0 (.cons (.int 7) .nil)) (.int 3)) (.cons (.bin .sub (.cio 18 0 (.cons (.int 7) .nil)) (.int 3)) .nil)))) (.lc [8] false (.rng (.cons (.int 729) .nil)) .nil (.tup (.cons (.bin .sub (.bin .fdiv (.var 8) (.int 27)) (.int 13)) (.cons (.bin .sub (.bin .mod (.blt .int (.cons (.var 8) .nil)) (.int 27)) (.int 13)) .nil)))))) (.seq (.ife (.and (.cons (.tst (.cmp .lt (.blt .len (.cons (.var 5) .nil)) (.var 4))) (.cons (.not (.tst (.blt .any (.cons (.lc [9] false (.sow 5) .nil (.ntn (.call 31 (.cons (.var 1) (.cons (.call 32 (.cons (.tup (.cons (.var 6) (.cons (.var 7) .nil))) (.cons (.var 9) .nil))) (.cons (.var 3) .nil)))))) .nil)))) .nil))) (.seq (.app 5 (.tup (.cons (.var 6) (.cons (.var 7) .nil)))) .nil) (.nil)) .nil))
      (.seq (.ife (.tst (.cmp .eq (.cio 18 0 (.cons (.int 3) .nil)) (.int 0))) (.seq (.asg 5 (.bin .add (.slc (.var 5) (.cons (.int 1) .nil) .nil) (.slc (.var 5) .nil (.cons (.int 1) .nil)))) .nil) (.nil))
      (.seq (.ife (.tst (.cmp .eq (.blt .len (.cons (.var 5) .nil)) (.var 4))) (.seq (.ret (.tup (.cons (.var 3) (.cons (.blt .tuple (.cons (.var 5) .nil)) .nil)))) .nil) (.nil)) .nil)))) (.nil)) .nil))))
  (.seq (.ret (.ite (.tst (.cmp .eq (.var 1) (.tup (.cons (.int 0) (.cons (.int 1) .nil))))) (.tup (.cons (.tup (.cons (.neg (.int 1)) (.cons (.int 1) .nil))) (.cons (.tup (.cons (.tup (.cons (.int 0) (.cons (.int 0) .nil))) (.cons (.tup (.cons (.int 1) (.cons (.int 0) .nil))) .nil))) .nil))) (.tup (.cons (.tup (.cons (.neg (.int 2)) (.cons (.int 0) .nil))) (.cons (.tup (.cons (.tup (.cons (.int 0) (.cons (.int 0) .nil))) (.cons (.tup (.cons (.int 1) (.cons (.int 0) .nil))) (.cons (.tup (.cons (.int 0) (.cons (.int 1) .nil))) (.cons (.tup (.cons (.int 1) (.cons (.int 1) .nil))) .nil))))) .nil))))) .nil)
def f__law_plane : Fd := ⟨"_law_plane", defArgs (top 37), defBody (top 37), defScope (top 37), ["state", "ring", "t", "base", "size", "digits", "u", "v", "k", "d"], ["state", "ring"], b__law_plane, true, false, 3, S2 sp__law_plane⟩
/-- 35: _law_step; slots 0 ring, 1 base, 2 digits, 3 z, 4 k, 5 own -/
def b__law_step : S :=
  .seq (.for_ [4] false (.rng (.cons (.blt .len (.cons (.var 2) .nil)) .nil)) (.seq (.asg 5 (.call 31 (.cons (.var 0) (.cons (.call 32 (.cons (.var 3) (.cons (.ix (.var 2) (.var 4)) .nil))) (.cons (.var 1) .nil)))))
    (.seq (.ife (.tst (.ntn (.var 5))) (.seq (.ret (.tup (.cons (.var 4) (.cons (.var 5) .nil)))) .nil) (.nil)) .nil)))
  (.seq (.ret .non) .nil)
def f__law_step : Fd := ⟨"_law_step", defArgs (top 38), defBody (top 38), defScope (top 38), ["ring", "base", "digits", "z", "k", "own"], ["ring", "base", "digits", "z"], b__law_step, false, false, 3, S4 sp__law_step⟩
/-- 36: _law_spot; slots 0 state, 1 big -/
def b__law_spot : S :=
  .seq (.asg 1 (.ite (.tst (.cmp .gt (.cio 18 0 (.cons (.int 3) .nil)) (.int 0))) (.int 1) (.int 1000003)))
  (.seq (.ret (.tup (.cons (.bin .mul (.bin .sub (.cio 18 0 (.cons (.int 41) .nil)) (.int 20)) (.var 1)) (.cons (.bin .mul (.bin .sub (.cio 18 0 (.cons (.int 41) .nil)) (.int 20)) (.var 1)) .nil)))) .nil)
def f__law_spot : Fd := ⟨"_law_spot", defArgs (top 39), defBody (top 39), defScope (top 39), ["state", "big"], ["state"], b__law_spot, true, false, 2, S1 sp__law_spot⟩
/-- 37: _law_is_spot; slots 0 z, 1 c -/
def b__law_is_spot : S :=
  .seq (.ret (.and (.cons (.isi (.var 0) .tuple) (.cons (.cmp .eq (.blt .len (.cons (.var 0) .nil)) (.int 2)) (.cons (.blt .all (.cons (.lc [1] false (.seq (.var 0)) .nil (.and (.cons (.call 20 (.cons (.var 1) .nil)) (.cons (.cmp .le (.blt .abs (.cons (.var 1) .nil)) (.int 1000000000000)) .nil)))) .nil)) .nil))))) .nil
def f__law_is_spot : Fd := ⟨"_law_is_spot", defArgs (top 40), defBody (top 40), defScope (top 40), ["z", "c"], ["z"], b__law_is_spot, false, false, 2, S1 sp__law_is_spot⟩
/-- 38: _law_is_base; slots 0 ring, 1 base, 2 digits, 3 i, 4 z, 5 j -/
def b__law_is_base : S :=
  .seq (.ife (.or (.cons (.not (.tst (.call 37 (.cons (.var 1) .nil)))) (.cons (.not (.tst (.isi (.var 2) .tuple))) (.cons (.not (.tst (.blt .all (.cons (.lc [4] false (.seq (.var 2)) .nil (.call 37 (.cons (.var 4) .nil))) .nil)))) .nil)))) (.seq (.ret (.bl false)) .nil) (.nil))
  (.seq (.ife (.or (.cons (.not (.tst (.blt .all (.cons (.lc [4] false (.seq (.bin .add (.var 2) (.tup (.cons (.var 1) .nil)))) .nil (.cmp .le (.blt .max (.cons (.blt .abs (.cons (.ix (.var 4) (.int 0)) .nil)) (.cons (.blt .abs (.cons (.ix (.var 4) (.int 1)) .nil)) .nil))) (.int 100))) .nil)))) (.cons (.not (.tst (.chn .le .le (.int 2) (.call 30 (.cons (.var 0) (.cons (.var 1) .nil))) (.int 60)))) .nil))) (.seq (.ret (.bl false)) .nil) (.nil))
  (.seq (.ife (.or (.cons (.tst (.cmp .ne (.blt .len (.cons (.var 2) .nil)) (.call 30 (.cons (.var 0) (.cons (.var 1) .nil))))) (.cons (.tst (.cmp .nin (.tup (.cons (.int 0) (.cons (.int 0) .nil))) (.var 2))) .nil))) (.seq (.ret (.bl false)) .nil) (.nil))
  (.seq (.ret (.not (.blt .any (.cons (.lc [3] false (.rng (.cons (.blt .len (.cons (.var 2) .nil)) .nil)) .nil (.blt .any (.cons (.lc [5] false (.rng (.cons (.var 3) .nil)) .nil (.ntn (.call 31 (.cons (.var 0) (.cons (.call 32 (.cons (.ix (.var 2) (.var 3)) (.cons (.ix (.var 2) (.var 5)) .nil))) (.cons (.var 1) .nil)))))) .nil))) .nil)))) .nil)))
def f__law_is_base : Fd := ⟨"_law_is_base", defArgs (top 41), defBody (top 41), defScope (top 41), ["ring", "base", "digits", "i", "z", "j"], ["ring", "base", "digits"], b__law_is_base, false, false, 3, S3 sp__law_is_base⟩
/-- 39: law; slots 0 script, 1 state, 2 ring, 3 z, 4 w, 5 turned, 6 small, 7 top, 8 base, 9 digits, 10 bent, 11 straight, 12 own, 13 due, 14 t, 15 n, 16 good, 17 tried, 18 value, 19 k -/
def b_law : S :=
  .seq (.asg 1 (.call 17 (.cons (.var 0) .nil)))
  (.seq (.asg 2 (.cio 33 1 .nil))
  (.seq (.par [3, 4] (.cons (.cio 36 1 .nil) (.cons (.cio 36 1 .nil) .nil)))
  (.seq (.ife (.or (.cons (.not (.tst (.call 26 (.cons (.call 5 (.cons (.var 3) (.cons (.var 4) .nil))) (.cons (.tup (.cons (.bin .add (.ix (.var 3) (.int 0)) (.ix (.var 4) (.int 0))) (.cons (.bin .add (.ix (.var 3) (.int 1)) (.ix (.var 4) (.int 1))) .nil))) .nil))))) (.cons (.not (.tst (.call 26 (.cons (.call 6 (.cons (.var 3) (.cons (.var 4) .nil))) (.cons (.call 32 (.cons (.var 3) (.cons (.var 4) .nil))) .nil))))) (.cons (.not (.tst (.call 26 (.cons (.call 7 (.cons (.var 2) (.cons (.var 3) (.cons (.var 4) .nil)))) (.cons (.call 29 (.cons (.var 2) (.cons (.var 3) (.cons (.var 4) .nil)))) .nil))))) .nil)))) (.seq (.ret (.bl false)) .nil) (.nil))
  (.seq (.asg 5 (.tup (.cons (.bin .add (.ix (.var 3) (.int 0)) (.bin .mul (.ix (.var 2) (.int 0)) (.ix (.var 3) (.int 1)))) (.cons (.neg (.ix (.var 3) (.int 1))) .nil))))
  (.seq (.ife (.or (.cons (.not (.tst (.call 26 (.cons (.call 9 (.cons (.var 2) (.cons (.var 3) .nil))) (.cons (.call 30 (.cons (.var 2) (.cons (.var 3) .nil))) .nil))))) (.cons (.not (.tst (.call 26 (.cons (.call 10 (.cons (.var 2) (.cons (.var 3) .nil))) (.cons (.var 5) .nil))))) (.cons (.tst (.cmp .ne (.call 29 (.cons (.var 2) (.cons (.var 3) (.cons (.var 5) .nil)))) (.tup (.cons (.call 30 (.cons (.var 2) (.cons (.var 3) .nil))) (.cons (.int 0) .nil))))) .nil)))) (.seq (.ret (.bl false)) .nil) (.nil))
  (.seq (.asg 6 (.tup (.cons (.bin .sub (.cio 18 1 (.cons (.int 9) .nil)) (.int 4)) (.cons (.bin .sub (.cio 18 1 (.cons (.int 9) .nil)) (.int 4)) .nil))))
  (.seq (.for_ [7] false (.seq (.lst (.cons (.var 3) (.cons (.var 4) (.cons (.call 29 (.cons (.var 2) (.cons (.var 3) (.cons (.var 6) .nil)))) .nil))))) (.seq (.ife (.and (.cons (.tst (.cmp .ne (.var 6) (.tup (.cons (.int 0) (.cons (.int 0) .nil))))) (.cons (.not (.tst (.call 26 (.cons (.call 27 (.cons (.fnv 11) (.cons (.tup (.cons (.var 2) (.cons (.var 7) (.cons (.var 6) .nil)))) .nil))) (.cons (.tup (.cons (.str "told") (.cons (.call 31 (.cons (.var 2) (.cons (.var 7) (.cons (.var 6) .nil)))) .nil))) .nil))))) .nil))) (.seq (.ret (.bl false)) .nil) (.nil)) .nil))
  (.seq (.ife (.tst (.cmp .ne (.call 27 (.cons (.fnv 11) (.cons (.tup (.cons (.var 2) (.cons (.var 3) (.cons (.tup (.cons (.int 0) (.cons (.int 0) .nil))) .nil)))) .nil))) (.tup (.cons (.str "refused") (.cons (.str "zero") .nil))))) (.seq (.ret (.bl false)) .nil) (.nil))
  (.seq (.unp [8, 9] (.cio 34 1 (.cons (.var 2) .nil)))
  (.seq (.asg 10 (.bin .add (.slc (.var 9) .nil (.cons (.neg (.int 1)) .nil)) (.tup (.cons (.tup (.cons (.bin .add (.ix (.ix (.var 9) (.int 0)) (.int 0)) (.ix (.var 8) (.int 0))) (.cons (.bin .add (.ix (.ix (.var 9) (.int 0)) (.int 1)) (.ix (.var 8) (.int 1))) .nil))) .nil))))
  (.seq (.asg 11 (.blt .tuple (.cons (.lc [19] false (.rng (.cons (.call 30 (.cons (.var 2) (.cons (.var 8) .nil))) .nil)) .nil (.tup (.cons (.var 19) (.cons (.int 0) .nil)))) .nil)))
  (.seq (.for_ [12] false (.seq (.lst (.cons (.var 9) (.cons (.rev (.var 9)) (.cons (.slc (.var 9) .nil (.cons (.neg (.int 1)) .nil)) (.cons (.bin .add (.var 9) (.tup (.cons (.tup (.cons (.int 50) (.cons (.int 50) .nil))) .nil))) (.cons (.var 10) (.cons (.blt .list (.cons (.var 9) .nil)) (.cons .non (.cons (.int 5) (.cons (.tup (.cons (.tup (.cons (.int 0) (.cons (.int 0) .nil))) .nil)) (.cons (.tup (.cons (.tup (.cons (.int 0) (.cons (.int 0) .nil))) (.cons (.tup (.cons (.int 101) (.cons (.int 0) .nil))) .nil))) (.cons (.tup (.cons (.tup (.cons (.int 0) (.cons (.int 0) .nil))) (.cons (.int 1) .nil))) (.cons (.var 11) .nil)))))))))))))) (.seq (.ife (.not (.tst (.call 19 (.cons (.call 13 (.cons (.var 2) (.cons (.var 8) (.cons (.var 12) .nil)))) (.cons (.call 38 (.cons (.var 2) (.cons (.var 8) (.cons (.var 12) .nil)))) .nil))))) (.seq (.ret (.bl false)) .nil) (.nil)) .nil))
  (.seq (.for_ [12] false (.seq (.lst (.cons (.tup (.cons (.int 1) (.cons (.int 0) .nil))) (.cons (.tup (.cons (.int 0) (.cons (.int 0) .nil))) (.cons .non (.cons (.int 5) (.cons (.tup (.cons (.int 2) .nil)) (.cons (.tup (.cons (.bl true) (.cons (.int 1) .nil))) (.cons (.tup (.cons (.int 101) (.cons (.int 0) .nil))) (.cons (.lst (.cons (.int 2) (.cons (.int 0) .nil))) .nil)))))))))) (.seq (.ife (.not (.tst (.call 19 (.cons (.call 13 (.cons (.var 2) (.cons (.var 12) (.cons (.var 9) .nil)))) (.cons (.call 38 (.cons (.var 2) (.cons (.var 12) (.cons (.var 9) .nil)))) .nil))))) (.seq (.ret (.bl false)) .nil) (.nil)) .nil))
  (.seq (.asg 13 (.ite (.tst (.call 38 (.cons (.var 2) (.cons (.var 8) (.cons (.var 11) .nil))))) (.tup (.cons (.str "told") (.cons (.var 11) .nil))) (.tup (.cons (.str "refused") (.cons (.str "digits") .nil)))))
  (.seq (.ife (.or (.cons (.not (.tst (.call 26 (.cons (.call 27 (.cons (.fnv 14) (.cons (.tup (.cons (.var 2) (.cons (.var 8) .nil))) .nil))) (.cons (.var 13) .nil))))) (.cons (.tst (.cmp .ne (.call 27 (.cons (.fnv 14) (.cons (.tup (.cons (.var 2) (.cons (.ite (.tst (.cmp .eq (.var 2) (.tup (.cons (.int 0) (.cons (.int 1) .nil))))) (.tup (.cons (.int 0) (.cons (.int 2) .nil))) (.tup (.cons (.int 2) (.cons (.int 0) .nil)))) .nil))) .nil))) (.tup (.cons (.str "refused") (.cons (.str "digits") .nil))))) .nil))) (.seq (.ret (.bl false)) .nil) (.nil))
  (.seq (.ife (.not (.tst (.call 26 (.cons (.call 15 (.cons (.var 2) (.cons (.var 8) (.cons (.var 9) (.cons (.var 3) .nil))))) (.cons (.call 35 (.cons (.var 2) (.cons (.var 8) (.cons (.var 9) (.cons (.var 3) .nil))))) .nil))))) (.seq (.ret (.bl false)) .nil) (.nil))
  (.seq (.ife (.or (.cons (.not (.tst (.call 19 (.cons (.call 16 (.cons (.var 6) .nil)) (.cons (.and (.cons (.cmp .lt (.ix (.var 6) (.int 0)) (.int 0)) (.cons (.cmp .in_ (.ix (.var 6) (.int 1)) (.tup (.cons (.int 1) (.cons (.neg (.int 1)) .nil)))) .nil))) .nil))))) (.cons (.not (.tst (.call 19 (.cons (.call 16 (.cons (.tup (.cons (.neg (.int 3)) (.cons (.neg (.int 1)) .nil))) .nil)) (.cons (.bl true) .nil))))) .nil))) (.seq (.ret (.bl false)) .nil) (.nil))
  (.seq (.for_ [14, 15] true (.seq (.lst (.cons (.var 2) (.cons (.tup (.cons (.int 0) (.cons (.int 0) .nil))) (.cons (.tup (.cons (.int 2) (.cons (.int 1) .nil))) (.cons (.tup (.cons (.neg (.int 4)) (.cons (.int 4) .nil))) (.cons (.tup (.cons (.int 20) (.cons (.int 20) .nil))) (.cons (.tup (.cons (.int 0) (.cons (.int 21) .nil))) (.cons (.tup (.cons (.neg (.int 21)) (.cons (.int 20) .nil))) (.cons (.tup (.cons (.int 3) (.cons (.int 3) .nil))) (.cons (.tup (.cons .non (.cons (.int 1) .nil))) (.cons (.tup (.cons (.int 0) (.cons (.bl true) .nil))) (.cons (.tup (.cons (.int 0) (.cons (.str "1") .nil))) .nil))))))))))))) (.seq (.asg 16 (.and (.cons (.call 20 (.cons (.var 14) .nil)) (.cons (.call 20 (.cons (.var 15) .nil)) (.cons (.cmp .le (.blt .max (.cons (.blt .abs (.cons (.var 14) .nil)) (.cons (.blt .abs (.cons (.var 15) .nil)) .nil))) (.int 20)) (.cons (.cmp .lt (.bin .mul (.var 14) (.var 14)) (.bin .mul (.int 4) (.var 15))) .nil))))))
    (.seq (.asg 17 (.lst (.cons (.tup (.cons (.fnv 7) (.cons (.tup (.cons (.tup (.cons (.var 14) (.cons (.var 15) .nil))) (.cons (.var 3) (.cons (.var 4) .nil)))) .nil))) (.cons (.tup (.cons (.fnv 9) (.cons (.tup (.cons (.tup (.cons (.var 14) (.cons (.var 15) .nil))) (.cons (.var 3) .nil))) .nil))) (.cons (.tup (.cons (.fnv 11) (.cons (.tup (.cons (.tup (.cons (.var 14) (.cons (.var 15) .nil))) (.cons (.var 3) (.cons (.var 4) .nil)))) .nil))) (.cons (.tup (.cons (.fnv 14) (.cons (.tup (.cons (.tup (.cons (.var 14) (.cons (.var 15) .nil))) (.cons (.tup (.cons (.int 2) (.cons (.int 1) .nil))) .nil))) .nil))) .nil))))))
    (.seq (.ife (.or (.cons (.not (.tst (.call 19 (.cons (.call 2 (.cons (.var 14) (.cons (.var 15) .nil))) (.cons (.var 16) .nil))))) (.cons (.and (.cons (.not (.tst (.var 16))) (.cons (.not (.tst (.call 28 (.cons (.var 17) .nil)))) .nil))) .nil))) (.seq (.ret (.bl false)) .nil) (.nil)) .nil))))
  (.seq (.for_ [18] false (.seq (.lst (.cons (.var 3) (.cons (.tup (.cons (.int 1000000000001) (.cons (.int 0) .nil))) (.cons (.tup (.cons (.int 1) .nil)) (.cons (.tup (.cons (.int 1) (.cons (.int 2) (.cons (.int 3) .nil)))) (.cons (.lst (.cons (.int 1) (.cons (.int 2) .nil))) (.cons .non (.cons (.int 5) (.cons (.tup (.cons (.bl true) (.cons (.int 0) .nil))) (.cons (.tup (.cons (.str "1") (.cons (.int 2) .nil))) .nil))))))))))) (.seq (.ife (.not (.tst (.call 19 (.cons (.call 3 (.cons (.var 18) .nil)) (.cons (.call 37 (.cons (.var 18) .nil)) .nil))))) (.seq (.ret (.bl false)) .nil) (.nil))
    (.seq (.asg 17 (.lst (.cons (.tup (.cons (.fnv 7) (.cons (.tup (.cons (.var 2) (.cons (.var 18) (.cons (.var 4) .nil)))) .nil))) (.cons (.tup (.cons (.fnv 7) (.cons (.tup (.cons (.var 2) (.cons (.var 3) (.cons (.var 18) .nil)))) .nil))) (.cons (.tup (.cons (.fnv 9) (.cons (.tup (.cons (.var 2) (.cons (.var 18) .nil))) .nil))) (.cons (.tup (.cons (.fnv 10) (.cons (.tup (.cons (.var 2) (.cons (.var 18) .nil))) .nil))) (.cons (.tup (.cons (.fnv 11) (.cons (.tup (.cons (.var 2) (.cons (.var 18) (.cons (.var 3) .nil)))) .nil))) .nil)))))))
    (.seq (.asg 17 (.bin .add (.var 17) (.lst (.cons (.tup (.cons (.fnv 11) (.cons (.tup (.cons (.var 2) (.cons (.var 3) (.cons (.var 18) .nil)))) .nil))) (.cons (.tup (.cons (.fnv 16) (.cons (.tup (.cons (.var 18) .nil)) .nil))) (.cons (.tup (.cons (.fnv 14) (.cons (.tup (.cons (.var 2) (.cons (.var 18) .nil))) .nil))) .nil))))))
    (.seq (.ife (.and (.cons (.not (.tst (.call 37 (.cons (.var 18) .nil)))) (.cons (.not (.tst (.call 28 (.cons (.var 17) .nil)))) .nil))) (.seq (.ret (.bl false)) .nil) (.nil)) .nil)))))
  (.seq (.ret (.call 28 (.cons (.lst (.cons (.tup (.cons (.fnv 9) (.cons (.tup (.cons .non (.cons (.var 3) .nil))) .nil))) (.cons (.tup (.cons (.fnv 7) (.cons (.tup (.cons (.lst (.cons (.int 0) (.cons (.int 1) .nil))) (.cons (.var 3) (.cons (.var 4) .nil)))) .nil))) (.cons (.tup (.cons (.fnv 14) (.cons (.tup (.cons (.var 2) (.cons (.tup (.cons (.int 1) (.cons (.int 0) .nil))) .nil))) .nil))) (.cons (.tup (.cons (.fnv 14) (.cons (.tup (.cons (.var 2) (.cons (.tup (.cons (.int 40) (.cons (.int 40) .nil))) .nil))) .nil))) (.cons (.tup (.cons (.fnv 13) (.cons (.tup (.cons .non (.cons (.var 8) (.cons (.var 9) .nil)))) .nil))) .nil)))))) .nil))) .nil))))))))))))))))))))
def f_law : Fd := ⟨"law", defArgs (top 42), defBody (top 42), defScope (top 42), ["script", "state", "ring", "z", "w", "turned", "small", "top", "base", "digits", "bent", "straight", "own", "due", "t", "n", "good", "tried", "value", "k"], ["script"], b_law, false, false, 10, lawSp⟩
def i_ref : Ini := ⟨.ref, "Fault", "reason", "Refused.__init__", defArgs (clsStmt (top 3) 0), defBody (clsStmt (top 3) 0), defScope (clsStmt (top 3) 0)⟩
def tx : Tx := ⟨[f_is_integer, f_is_whole_row, f_is_ring, f_is_spot, f_check_spots, f_spot_plus, f_spot_less, f_spot_times, f_spot_product, f_spot_norm, f_spot_turned, f_spot_over, f_spot_quotient, f_is_plane_base, f_plain_digits, f_plane_step, f_is_gauss_base, f__law_state, f__law_take, f__law_says, f__law_is_whole, f__law_same_v, f__law_same_0, f__law_same_1, f__law_same_2, f__law_same_3, f__law_same_4, f__law_told, f__law_all_malformed, f__law_product, f__law_norm, f__law_over_spot, f__law_less, f__law_ring, f__law_plane, f__law_step, f__law_spot, f__law_is_spot, f__law_is_base, f_law], [.mal, .ref], [.mal, .ref], [("MOST_ITEM", 1000000000000)], [i_ref]⟩
theorem x_i_ref : IniTx i_ref := ⟨fun _ _ _ _ _ _ us hl => match us, hl with | [_, _], _ => rfl, by decide +kernel, fun X B hs hN hm rd ga vV => ini_body hN (by rw [hs]; decide +kernel) (by rw [hs]; decide +kernel) (by rw [hs]; decide +kernel) hm rd ga vV rfl⟩
theorem x_all : ∀ i ∈ tx.inis, IniTx i := by
  intro i hi
  simp only [tx, List.mem_cons, List.not_mem_nil, or_false] at hi
  subst hi
  · exact x_i_ref
theorem c_is_integer : chk tx.T tx.ek tx.gi f_is_integer = true := by decide +kernel
theorem c_is_whole_row : chk tx.T tx.ek tx.gi f_is_whole_row = true := by decide +kernel
theorem c_is_ring : chk tx.T tx.ek tx.gi f_is_ring = true := by decide +kernel
theorem c_is_spot : chk tx.T tx.ek tx.gi f_is_spot = true := by decide +kernel
theorem c_check_spots : chk tx.T tx.ek tx.gi f_check_spots = true := by decide +kernel
theorem c_spot_plus : chk tx.T tx.ek tx.gi f_spot_plus = true := by decide +kernel
theorem c_spot_less : chk tx.T tx.ek tx.gi f_spot_less = true := by decide +kernel
theorem c_spot_times : chk tx.T tx.ek tx.gi f_spot_times = true := by decide +kernel
theorem c_spot_product : chk tx.T tx.ek tx.gi f_spot_product = true := by decide +kernel
theorem c_spot_norm : chk tx.T tx.ek tx.gi f_spot_norm = true := by decide +kernel
theorem c_spot_turned : chk tx.T tx.ek tx.gi f_spot_turned = true := by decide +kernel
theorem c_spot_over : chk tx.T tx.ek tx.gi f_spot_over = true := by decide +kernel
theorem c_spot_quotient : chk tx.T tx.ek tx.gi f_spot_quotient = true := by decide +kernel
theorem c_is_plane_base : chk tx.T tx.ek tx.gi f_is_plane_base = true := by decide +kernel
theorem c_plain_digits : chk tx.T tx.ek tx.gi f_plain_digits = true := by decide +kernel
theorem c_plane_step : chk tx.T tx.ek tx.gi f_plane_step = true := by decide +kernel
theorem c_is_gauss_base : chk tx.T tx.ek tx.gi f_is_gauss_base = true := by decide +kernel
theorem c__law_state : chk tx.T tx.ek tx.gi f__law_state = true := by decide +kernel
theorem c__law_take : chk tx.T tx.ek tx.gi f__law_take = true := by decide +kernel
theorem c__law_says : chk tx.T tx.ek tx.gi f__law_says = true := by decide +kernel
theorem c__law_is_whole : chk tx.T tx.ek tx.gi f__law_is_whole = true := by decide +kernel
theorem c__law_same_v : chk tx.T tx.ek tx.gi f__law_same_v = true := by decide +kernel
theorem c__law_same_0 : chk tx.T tx.ek tx.gi f__law_same_0 = true := by decide +kernel
theorem c__law_same_1 : chk tx.T tx.ek tx.gi f__law_same_1 = true := by decide +kernel
theorem c__law_same_2 : chk tx.T tx.ek tx.gi f__law_same_2 = true := by decide +kernel
theorem c__law_same_3 : chk tx.T tx.ek tx.gi f__law_same_3 = true := by decide +kernel
theorem c__law_same_4 : chk tx.T tx.ek tx.gi f__law_same_4 = true := by decide +kernel
theorem c__law_told : chk tx.T tx.ek tx.gi f__law_told = true := by decide +kernel
theorem c__law_all_malformed : chk tx.T tx.ek tx.gi f__law_all_malformed = true := by decide +kernel
theorem c__law_product : chk tx.T tx.ek tx.gi f__law_product = true := by decide +kernel
theorem c__law_norm : chk tx.T tx.ek tx.gi f__law_norm = true := by decide +kernel
theorem c__law_over_spot : chk tx.T tx.ek tx.gi f__law_over_spot = true := by decide +kernel
theorem c__law_less : chk tx.T tx.ek tx.gi f__law_less = true := by decide +kernel
theorem c__law_ring : chk tx.T tx.ek tx.gi f__law_ring = true := by decide +kernel
theorem c__law_plane : chk tx.T tx.ek tx.gi f__law_plane = true := by decide +kernel
theorem c__law_step : chk tx.T tx.ek tx.gi f__law_step = true := by decide +kernel
theorem c__law_spot : chk tx.T tx.ek tx.gi f__law_spot = true := by decide +kernel
theorem c__law_is_spot : chk tx.T tx.ek tx.gi f__law_is_spot = true := by decide +kernel
theorem c__law_is_base : chk tx.T tx.ek tx.gi f__law_is_base = true := by decide +kernel
theorem c_law : chk tx.T tx.ek tx.gi f_law = true := by decide +kernel
theorem a_is_integer : BindOk f_is_integer := fun _ _ _ _ _ _ us hl => match us, hl with | [_], _ => rfl
theorem a_is_whole_row : BindOk f_is_whole_row := fun _ _ _ _ _ _ us hl => match us, hl with | [_], _ => rfl
theorem a_is_ring : BindOk f_is_ring := fun _ _ _ _ _ _ us hl => match us, hl with | [_, _], _ => rfl
theorem a_is_spot : BindOk f_is_spot := fun _ _ _ _ _ _ us hl => match us, hl with | [_], _ => rfl
theorem a_check_spots : BindOk f_check_spots := fun _ _ _ _ _ _ us hl => match us, hl with | [_, _], _ => rfl
theorem a_spot_plus : BindOk f_spot_plus := fun _ _ _ _ _ _ us hl => match us, hl with | [_, _], _ => rfl
theorem a_spot_less : BindOk f_spot_less := fun _ _ _ _ _ _ us hl => match us, hl with | [_, _], _ => rfl
theorem a_spot_times : BindOk f_spot_times := fun _ _ _ _ _ _ us hl => match us, hl with | [_, _, _], _ => rfl
theorem a_spot_product : BindOk f_spot_product := fun _ _ _ _ _ _ us hl => match us, hl with | [_, _, _], _ => rfl
theorem a_spot_norm : BindOk f_spot_norm := fun _ _ _ _ _ _ us hl => match us, hl with | [_, _], _ => rfl
theorem a_spot_turned : BindOk f_spot_turned := fun _ _ _ _ _ _ us hl => match us, hl with | [_, _], _ => rfl
theorem a_spot_over : BindOk f_spot_over := fun _ _ _ _ _ _ us hl => match us, hl with | [_, _, _], _ => rfl
theorem a_spot_quotient : BindOk f_spot_quotient := fun _ _ _ _ _ _ us hl => match us, hl with | [_, _, _], _ => rfl
theorem a_is_plane_base : BindOk f_is_plane_base := fun _ _ _ _ _ _ us hl => match us, hl with | [_, _, _], _ => rfl
theorem a_plain_digits : BindOk f_plain_digits := fun _ _ _ _ _ _ us hl => match us, hl with | [_, _], _ => rfl
theorem a_plane_step : BindOk f_plane_step := fun _ _ _ _ _ _ us hl => match us, hl with | [_, _, _, _], _ => rfl
theorem a_is_gauss_base : BindOk f_is_gauss_base := fun _ _ _ _ _ _ us hl => match us, hl with | [_], _ => rfl
theorem a__law_state : BindOk f__law_state := fun _ _ _ _ _ _ us hl => match us, hl with | [_], _ => rfl
theorem a__law_take : BindOk f__law_take := fun _ _ _ _ _ _ us hl => match us, hl with | [_, _], _ => rfl
theorem a__law_says : BindOk f__law_says := fun _ _ _ _ _ _ us hl => match us, hl with | [_, _], _ => rfl
theorem a__law_is_whole : BindOk f__law_is_whole := fun _ _ _ _ _ _ us hl => match us, hl with | [_], _ => rfl
theorem a__law_same_v : BindOk f__law_same_v := fun _ _ _ _ _ _ us hl => match us, hl with | [_, _], _ => rfl
theorem a__law_same_0 : BindOk f__law_same_0 := fun _ _ _ _ _ _ us hl => match us, hl with | [_, _], _ => rfl
theorem a__law_same_1 : BindOk f__law_same_1 := fun _ _ _ _ _ _ us hl => match us, hl with | [_, _], _ => rfl
theorem a__law_same_2 : BindOk f__law_same_2 := fun _ _ _ _ _ _ us hl => match us, hl with | [_, _], _ => rfl
theorem a__law_same_3 : BindOk f__law_same_3 := fun _ _ _ _ _ _ us hl => match us, hl with | [_, _], _ => rfl
theorem a__law_same_4 : BindOk f__law_same_4 := fun _ _ _ _ _ _ us hl => match us, hl with | [_, _], _ => rfl
theorem a__law_told : BindOk f__law_told := fun _ _ _ _ _ _ us hl => match us, hl with | [_, _], _ => rfl
theorem a__law_all_malformed : BindOk f__law_all_malformed := fun _ _ _ _ _ _ us hl => match us, hl with | [_], _ => rfl
theorem a__law_product : BindOk f__law_product := fun _ _ _ _ _ _ us hl => match us, hl with | [_, _, _], _ => rfl
theorem a__law_norm : BindOk f__law_norm := fun _ _ _ _ _ _ us hl => match us, hl with | [_, _], _ => rfl
theorem a__law_over_spot : BindOk f__law_over_spot := fun _ _ _ _ _ _ us hl => match us, hl with | [_, _, _], _ => rfl
theorem a__law_less : BindOk f__law_less := fun _ _ _ _ _ _ us hl => match us, hl with | [_, _], _ => rfl
theorem a__law_ring : BindOk f__law_ring := fun _ _ _ _ _ _ us hl => match us, hl with | [_], _ => rfl
theorem a__law_plane : BindOk f__law_plane := fun _ _ _ _ _ _ us hl => match us, hl with | [_, _], _ => rfl
theorem a__law_step : BindOk f__law_step := fun _ _ _ _ _ _ us hl => match us, hl with | [_, _, _, _], _ => rfl
theorem a__law_spot : BindOk f__law_spot := fun _ _ _ _ _ _ us hl => match us, hl with | [_], _ => rfl
theorem a__law_is_spot : BindOk f__law_is_spot := fun _ _ _ _ _ _ us hl => match us, hl with | [_], _ => rfl
theorem a__law_is_base : BindOk f__law_is_base := fun _ _ _ _ _ _ us hl => match us, hl with | [_, _, _], _ => rfl
theorem a_law : BindOk f_law := fun _ _ _ _ _ _ us hl => match us, hl with | [_], _ => rfl
theorem n_is_integer : fdAt tx.T 0 = f_is_integer := rfl
theorem n_is_whole_row : fdAt tx.T 1 = f_is_whole_row := rfl
theorem n_is_ring : fdAt tx.T 2 = f_is_ring := rfl
theorem n_is_spot : fdAt tx.T 3 = f_is_spot := rfl
theorem n_check_spots : fdAt tx.T 4 = f_check_spots := rfl
theorem n_spot_plus : fdAt tx.T 5 = f_spot_plus := rfl
theorem n_spot_less : fdAt tx.T 6 = f_spot_less := rfl
theorem n_spot_times : fdAt tx.T 7 = f_spot_times := rfl
theorem n_spot_product : fdAt tx.T 8 = f_spot_product := rfl
theorem n_spot_norm : fdAt tx.T 9 = f_spot_norm := rfl
theorem n_spot_turned : fdAt tx.T 10 = f_spot_turned := rfl
theorem n_spot_over : fdAt tx.T 11 = f_spot_over := rfl
theorem n_spot_quotient : fdAt tx.T 12 = f_spot_quotient := rfl
theorem n_is_plane_base : fdAt tx.T 13 = f_is_plane_base := rfl
theorem n_plain_digits : fdAt tx.T 14 = f_plain_digits := rfl
theorem n_plane_step : fdAt tx.T 15 = f_plane_step := rfl
theorem n_is_gauss_base : fdAt tx.T 16 = f_is_gauss_base := rfl
theorem n__law_state : fdAt tx.T 17 = f__law_state := rfl
theorem n__law_take : fdAt tx.T 18 = f__law_take := rfl
theorem n__law_says : fdAt tx.T 19 = f__law_says := rfl
theorem n__law_is_whole : fdAt tx.T 20 = f__law_is_whole := rfl
theorem n__law_same_v : fdAt tx.T 21 = f__law_same_v := rfl
theorem n__law_same_0 : fdAt tx.T 22 = f__law_same_0 := rfl
theorem n__law_same_1 : fdAt tx.T 23 = f__law_same_1 := rfl
theorem n__law_same_2 : fdAt tx.T 24 = f__law_same_2 := rfl
theorem n__law_same_3 : fdAt tx.T 25 = f__law_same_3 := rfl
theorem n__law_same_4 : fdAt tx.T 26 = f__law_same_4 := rfl
theorem n__law_told : fdAt tx.T 27 = f__law_told := rfl
theorem n__law_all_malformed : fdAt tx.T 28 = f__law_all_malformed := rfl
theorem n__law_product : fdAt tx.T 29 = f__law_product := rfl
theorem n__law_norm : fdAt tx.T 30 = f__law_norm := rfl
theorem n__law_over_spot : fdAt tx.T 31 = f__law_over_spot := rfl
theorem n__law_less : fdAt tx.T 32 = f__law_less := rfl
theorem n__law_ring : fdAt tx.T 33 = f__law_ring := rfl
theorem n__law_plane : fdAt tx.T 34 = f__law_plane := rfl
theorem n__law_step : fdAt tx.T 35 = f__law_step := rfl
theorem n__law_spot : fdAt tx.T 36 = f__law_spot := rfl
theorem n__law_is_spot : fdAt tx.T 37 = f__law_is_spot := rfl
theorem n__law_is_base : fdAt tx.T 38 = f__law_is_base := rfl
theorem n_law : fdAt tx.T 39 = f_law := rfl
theorem s_is_integer (f : Fd) : (gxOf tx.T tx.ek f).sp 0 = M.isint := rfl
theorem fr_is_integer (f : Fd) : (gxOf tx.T tx.ek f).tb.fr 0 = false := rfl
theorem p_is_integer : (gxOf tx.T tx.ek f_is_integer).iop = none := rfl
theorem s_is_whole_row (f : Fd) : (gxOf tx.T tx.ek f).sp 1 = M.isrow := rfl
theorem fr_is_whole_row (f : Fd) : (gxOf tx.T tx.ek f).tb.fr 1 = false := rfl
theorem p_is_whole_row : (gxOf tx.T tx.ek f_is_whole_row).iop = none := rfl
theorem s_is_ring (f : Fd) : (gxOf tx.T tx.ek f).sp 2 = S2 sp_is_ring := rfl
theorem fr_is_ring (f : Fd) : (gxOf tx.T tx.ek f).tb.fr 2 = false := rfl
theorem p_is_ring : (gxOf tx.T tx.ek f_is_ring).iop = none := rfl
theorem s_is_spot (f : Fd) : (gxOf tx.T tx.ek f).sp 3 = S1 sp_is_spot := rfl
theorem fr_is_spot (f : Fd) : (gxOf tx.T tx.ek f).tb.fr 3 = false := rfl
theorem p_is_spot : (gxOf tx.T tx.ek f_is_spot).iop = none := rfl
theorem s_check_spots (f : Fd) : (gxOf tx.T tx.ek f).sp 4 = S2 sp_check_spots := rfl
theorem fr_check_spots (f : Fd) : (gxOf tx.T tx.ek f).tb.fr 4 = false := rfl
theorem p_check_spots : (gxOf tx.T tx.ek f_check_spots).iop = none := rfl
theorem s_spot_plus (f : Fd) : (gxOf tx.T tx.ek f).sp 5 = S2 sp_spot_plus := rfl
theorem fr_spot_plus (f : Fd) : (gxOf tx.T tx.ek f).tb.fr 5 = false := rfl
theorem p_spot_plus : (gxOf tx.T tx.ek f_spot_plus).iop = none := rfl
theorem s_spot_less (f : Fd) : (gxOf tx.T tx.ek f).sp 6 = S2 sp_spot_less := rfl
theorem fr_spot_less (f : Fd) : (gxOf tx.T tx.ek f).tb.fr 6 = false := rfl
theorem p_spot_less : (gxOf tx.T tx.ek f_spot_less).iop = none := rfl
theorem s_spot_times (f : Fd) : (gxOf tx.T tx.ek f).sp 7 = S3 sp_spot_times := rfl
theorem fr_spot_times (f : Fd) : (gxOf tx.T tx.ek f).tb.fr 7 = false := rfl
theorem p_spot_times : (gxOf tx.T tx.ek f_spot_times).iop = none := rfl
theorem s_spot_product (f : Fd) : (gxOf tx.T tx.ek f).sp 8 = S3 sp_spot_product := rfl
theorem fr_spot_product (f : Fd) : (gxOf tx.T tx.ek f).tb.fr 8 = false := rfl
theorem p_spot_product : (gxOf tx.T tx.ek f_spot_product).iop = none := rfl
theorem s_spot_norm (f : Fd) : (gxOf tx.T tx.ek f).sp 9 = S2 sp_spot_norm := rfl
theorem fr_spot_norm (f : Fd) : (gxOf tx.T tx.ek f).tb.fr 9 = false := rfl
theorem p_spot_norm : (gxOf tx.T tx.ek f_spot_norm).iop = none := rfl
theorem s_spot_turned (f : Fd) : (gxOf tx.T tx.ek f).sp 10 = S2 sp_spot_turned := rfl
theorem fr_spot_turned (f : Fd) : (gxOf tx.T tx.ek f).tb.fr 10 = false := rfl
theorem p_spot_turned : (gxOf tx.T tx.ek f_spot_turned).iop = none := rfl
theorem s_spot_over (f : Fd) : (gxOf tx.T tx.ek f).sp 11 = S3 sp_spot_over := rfl
theorem fr_spot_over (f : Fd) : (gxOf tx.T tx.ek f).tb.fr 11 = false := rfl
theorem p_spot_over : (gxOf tx.T tx.ek f_spot_over).iop = none := rfl
theorem s_spot_quotient (f : Fd) : (gxOf tx.T tx.ek f).sp 12 = S3 sp_spot_quotient := rfl
theorem fr_spot_quotient (f : Fd) : (gxOf tx.T tx.ek f).tb.fr 12 = false := rfl
theorem p_spot_quotient : (gxOf tx.T tx.ek f_spot_quotient).iop = none := rfl
theorem s_is_plane_base (f : Fd) : (gxOf tx.T tx.ek f).sp 13 = S3 sp_is_plane_base := rfl
theorem fr_is_plane_base (f : Fd) : (gxOf tx.T tx.ek f).tb.fr 13 = false := rfl
theorem p_is_plane_base : (gxOf tx.T tx.ek f_is_plane_base).iop = none := rfl
theorem s_plain_digits (f : Fd) : (gxOf tx.T tx.ek f).sp 14 = S2 sp_plain_digits := rfl
theorem fr_plain_digits (f : Fd) : (gxOf tx.T tx.ek f).tb.fr 14 = false := rfl
theorem p_plain_digits : (gxOf tx.T tx.ek f_plain_digits).iop = none := rfl
theorem s_plane_step (f : Fd) : (gxOf tx.T tx.ek f).sp 15 = S4 sp_plane_step := rfl
theorem fr_plane_step (f : Fd) : (gxOf tx.T tx.ek f).tb.fr 15 = false := rfl
theorem p_plane_step : (gxOf tx.T tx.ek f_plane_step).iop = none := rfl
theorem s_is_gauss_base (f : Fd) : (gxOf tx.T tx.ek f).sp 16 = S1 sp_is_gauss_base := rfl
theorem fr_is_gauss_base (f : Fd) : (gxOf tx.T tx.ek f).tb.fr 16 = false := rfl
theorem p_is_gauss_base : (gxOf tx.T tx.ek f_is_gauss_base).iop = none := rfl
theorem s__law_state (f : Fd) : (gxOf tx.T tx.ek f).sp 17 = M.state := rfl
theorem fr__law_state (f : Fd) : (gxOf tx.T tx.ek f).tb.fr 17 = true := rfl
theorem p__law_state : (gxOf tx.T tx.ek f__law_state).iop = none := rfl
theorem s__law_take (f : Fd) : (gxOf tx.T tx.ek f).sp 18 = M.take := rfl
theorem fr__law_take (f : Fd) : (gxOf tx.T tx.ek f).tb.fr 18 = false := rfl
theorem p__law_take : (gxOf tx.T tx.ek f__law_take).iop = some 0 := rfl
theorem s__law_says (f : Fd) : (gxOf tx.T tx.ek f).sp 19 = M.says := rfl
theorem fr__law_says (f : Fd) : (gxOf tx.T tx.ek f).tb.fr 19 = false := rfl
theorem p__law_says : (gxOf tx.T tx.ek f__law_says).iop = none := rfl
theorem s__law_is_whole (f : Fd) : (gxOf tx.T tx.ek f).sp 20 = M.isint := rfl
theorem fr__law_is_whole (f : Fd) : (gxOf tx.T tx.ek f).tb.fr 20 = false := rfl
theorem p__law_is_whole : (gxOf tx.T tx.ek f__law_is_whole).iop = none := rfl
theorem s__law_same_v (f : Fd) : (gxOf tx.T tx.ek f).sp 21 = fun _ _ _ => False := rfl
theorem fr__law_same_v (f : Fd) : (gxOf tx.T tx.ek f).tb.fr 21 = false := rfl
theorem p__law_same_v : (gxOf tx.T tx.ek f__law_same_v).iop = none := rfl
theorem s__law_same_0 (f : Fd) : (gxOf tx.T tx.ek f).sp 22 = M.same 0 := rfl
theorem fr__law_same_0 (f : Fd) : (gxOf tx.T tx.ek f).tb.fr 22 = false := rfl
theorem p__law_same_0 : (gxOf tx.T tx.ek f__law_same_0).iop = none := rfl
theorem s__law_same_1 (f : Fd) : (gxOf tx.T tx.ek f).sp 23 = M.same 1 := rfl
theorem fr__law_same_1 (f : Fd) : (gxOf tx.T tx.ek f).tb.fr 23 = false := rfl
theorem p__law_same_1 : (gxOf tx.T tx.ek f__law_same_1).iop = none := rfl
theorem s__law_same_2 (f : Fd) : (gxOf tx.T tx.ek f).sp 24 = M.same 2 := rfl
theorem fr__law_same_2 (f : Fd) : (gxOf tx.T tx.ek f).tb.fr 24 = false := rfl
theorem p__law_same_2 : (gxOf tx.T tx.ek f__law_same_2).iop = none := rfl
theorem s__law_same_3 (f : Fd) : (gxOf tx.T tx.ek f).sp 25 = M.same 3 := rfl
theorem fr__law_same_3 (f : Fd) : (gxOf tx.T tx.ek f).tb.fr 25 = false := rfl
theorem p__law_same_3 : (gxOf tx.T tx.ek f__law_same_3).iop = none := rfl
theorem s__law_same_4 (f : Fd) : (gxOf tx.T tx.ek f).sp 26 = M.same 4 := rfl
theorem fr__law_same_4 (f : Fd) : (gxOf tx.T tx.ek f).tb.fr 26 = false := rfl
theorem p__law_same_4 : (gxOf tx.T tx.ek f__law_same_4).iop = none := rfl
theorem s__law_told (f : Fd) : (gxOf tx.T tx.ek f).sp 27 = (M.told spv) := rfl
theorem fr__law_told (f : Fd) : (gxOf tx.T tx.ek f).tb.fr 27 = false := rfl
theorem p__law_told : (gxOf tx.T tx.ek f__law_told).iop = none := rfl
theorem s__law_all_malformed (f : Fd) : (gxOf tx.T tx.ek f).sp 28 = (M.allmal spv) := rfl
theorem fr__law_all_malformed (f : Fd) : (gxOf tx.T tx.ek f).tb.fr 28 = false := rfl
theorem p__law_all_malformed : (gxOf tx.T tx.ek f__law_all_malformed).iop = none := rfl
theorem s__law_product (f : Fd) : (gxOf tx.T tx.ek f).sp 29 = S3 sp__law_product := rfl
theorem fr__law_product (f : Fd) : (gxOf tx.T tx.ek f).tb.fr 29 = false := rfl
theorem p__law_product : (gxOf tx.T tx.ek f__law_product).iop = none := rfl
theorem s__law_norm (f : Fd) : (gxOf tx.T tx.ek f).sp 30 = S2 sp__law_norm := rfl
theorem fr__law_norm (f : Fd) : (gxOf tx.T tx.ek f).tb.fr 30 = false := rfl
theorem p__law_norm : (gxOf tx.T tx.ek f__law_norm).iop = none := rfl
theorem s__law_over_spot (f : Fd) : (gxOf tx.T tx.ek f).sp 31 = S3 sp__law_over_spot := rfl
theorem fr__law_over_spot (f : Fd) : (gxOf tx.T tx.ek f).tb.fr 31 = false := rfl
theorem p__law_over_spot : (gxOf tx.T tx.ek f__law_over_spot).iop = none := rfl
theorem s__law_less (f : Fd) : (gxOf tx.T tx.ek f).sp 32 = S2 sp__law_less := rfl
theorem fr__law_less (f : Fd) : (gxOf tx.T tx.ek f).tb.fr 32 = false := rfl
theorem p__law_less : (gxOf tx.T tx.ek f__law_less).iop = none := rfl
theorem s__law_ring (f : Fd) : (gxOf tx.T tx.ek f).sp 33 = S1 sp__law_ring := rfl
theorem fr__law_ring (f : Fd) : (gxOf tx.T tx.ek f).tb.fr 33 = false := rfl
theorem p__law_ring : (gxOf tx.T tx.ek f__law_ring).iop = some 0 := rfl
theorem s__law_plane (f : Fd) : (gxOf tx.T tx.ek f).sp 34 = S2 sp__law_plane := rfl
theorem fr__law_plane (f : Fd) : (gxOf tx.T tx.ek f).tb.fr 34 = false := rfl
theorem p__law_plane : (gxOf tx.T tx.ek f__law_plane).iop = some 0 := rfl
theorem s__law_step (f : Fd) : (gxOf tx.T tx.ek f).sp 35 = S4 sp__law_step := rfl
theorem fr__law_step (f : Fd) : (gxOf tx.T tx.ek f).tb.fr 35 = false := rfl
theorem p__law_step : (gxOf tx.T tx.ek f__law_step).iop = none := rfl
theorem s__law_spot (f : Fd) : (gxOf tx.T tx.ek f).sp 36 = S1 sp__law_spot := rfl
theorem fr__law_spot (f : Fd) : (gxOf tx.T tx.ek f).tb.fr 36 = false := rfl
theorem p__law_spot : (gxOf tx.T tx.ek f__law_spot).iop = some 0 := rfl
theorem s__law_is_spot (f : Fd) : (gxOf tx.T tx.ek f).sp 37 = S1 sp__law_is_spot := rfl
theorem fr__law_is_spot (f : Fd) : (gxOf tx.T tx.ek f).tb.fr 37 = false := rfl
theorem p__law_is_spot : (gxOf tx.T tx.ek f__law_is_spot).iop = none := rfl
theorem s__law_is_base (f : Fd) : (gxOf tx.T tx.ek f).sp 38 = S3 sp__law_is_base := rfl
theorem fr__law_is_base (f : Fd) : (gxOf tx.T tx.ek f).tb.fr 38 = false := rfl
theorem p__law_is_base : (gxOf tx.T tx.ek f__law_is_base).iop = none := rfl
theorem s_law (f : Fd) : (gxOf tx.T tx.ek f).sp 39 = lawSp := rfl
theorem fr_law (f : Fd) : (gxOf tx.T tx.ek f).tb.fr 39 = false := rfl
theorem p_law : (gxOf tx.T tx.ek f_law).iop = none := rfl
theorem G_is_ring (h : ∀ a_ b_ P X, sp_is_ring a_ b_ P X → wS (gxOf tx.T tx.ek f_is_ring) b_is_ring [.val a_, .val b_] (poV P X)) : Good tx.T tx.ek f_is_ring := gV2 rfl rfl (by decide) rfl rfl rfl rfl h
theorem G_is_spot (h : ∀ a_ P X, sp_is_spot a_ P X → wS (gxOf tx.T tx.ek f_is_spot) b_is_spot [.val a_] (poV P X)) : Good tx.T tx.ek f_is_spot := gV1 rfl rfl (by decide) rfl rfl rfl rfl h
theorem G_check_spots (h : ∀ a_ b_ P X, sp_check_spots a_ b_ P X → wS (gxOf tx.T tx.ek f_check_spots) b_check_spots [.val a_, .val b_, .emp] (poV P X)) : Good tx.T tx.ek f_check_spots := gV2 rfl rfl (by decide) rfl rfl rfl rfl h
theorem G_spot_plus (h : ∀ a_ b_ P X, sp_spot_plus a_ b_ P X → wS (gxOf tx.T tx.ek f_spot_plus) b_spot_plus [.val a_, .val b_] (poV P X)) : Good tx.T tx.ek f_spot_plus := gV2 rfl rfl (by decide) rfl rfl rfl rfl h
theorem G_spot_less (h : ∀ a_ b_ P X, sp_spot_less a_ b_ P X → wS (gxOf tx.T tx.ek f_spot_less) b_spot_less [.val a_, .val b_] (poV P X)) : Good tx.T tx.ek f_spot_less := gV2 rfl rfl (by decide) rfl rfl rfl rfl h
theorem G_spot_times (h : ∀ a_ b_ c_ P X, sp_spot_times a_ b_ c_ P X → wS (gxOf tx.T tx.ek f_spot_times) b_spot_times [.val a_, .val b_, .val c_] (poV P X)) : Good tx.T tx.ek f_spot_times := gV3 rfl rfl (by decide) rfl rfl rfl rfl h
theorem G_spot_product (h : ∀ a_ b_ c_ P X, sp_spot_product a_ b_ c_ P X → wS (gxOf tx.T tx.ek f_spot_product) b_spot_product [.val a_, .val b_, .val c_, .emp, .emp, .emp, .emp, .emp, .emp] (poV P X)) : Good tx.T tx.ek f_spot_product := gV3 rfl rfl (by decide) rfl rfl rfl rfl h
theorem G_spot_norm (h : ∀ a_ b_ P X, sp_spot_norm a_ b_ P X → wS (gxOf tx.T tx.ek f_spot_norm) b_spot_norm [.val a_, .val b_, .emp, .emp] (poV P X)) : Good tx.T tx.ek f_spot_norm := gV2 rfl rfl (by decide) rfl rfl rfl rfl h
theorem G_spot_turned (h : ∀ a_ b_ P X, sp_spot_turned a_ b_ P X → wS (gxOf tx.T tx.ek f_spot_turned) b_spot_turned [.val a_, .val b_] (poV P X)) : Good tx.T tx.ek f_spot_turned := gV2 rfl rfl (by decide) rfl rfl rfl rfl h
theorem G_spot_over (h : ∀ a_ b_ c_ P X, sp_spot_over a_ b_ c_ P X → wS (gxOf tx.T tx.ek f_spot_over) b_spot_over [.val a_, .val b_, .val c_] (poV P X)) : Good tx.T tx.ek f_spot_over := gV3 rfl rfl (by decide) rfl rfl rfl rfl h
theorem G_spot_quotient (h : ∀ a_ b_ c_ P X, sp_spot_quotient a_ b_ c_ P X → wS (gxOf tx.T tx.ek f_spot_quotient) b_spot_quotient [.val a_, .val b_, .val c_, .emp, .emp, .emp, .emp] (poV P X)) : Good tx.T tx.ek f_spot_quotient := gV3 rfl rfl (by decide) rfl rfl rfl rfl h
theorem G_is_plane_base (h : ∀ a_ b_ c_ P X, sp_is_plane_base a_ b_ c_ P X → wS (gxOf tx.T tx.ek f_is_plane_base) b_is_plane_base [.val a_, .val b_, .val c_, .emp, .emp, .emp, .emp] (poV P X)) : Good tx.T tx.ek f_is_plane_base := gV3 rfl rfl (by decide) rfl rfl rfl rfl h
theorem G_plain_digits (h : ∀ a_ b_ P X, sp_plain_digits a_ b_ P X → wS (gxOf tx.T tx.ek f_plain_digits) b_plain_digits [.val a_, .val b_, .emp, .emp, .emp] (poV P X)) : Good tx.T tx.ek f_plain_digits := gV2 rfl rfl (by decide) rfl rfl rfl rfl h
theorem G_plane_step (h : ∀ a_ b_ c_ d_ P X, sp_plane_step a_ b_ c_ d_ P X → wS (gxOf tx.T tx.ek f_plane_step) b_plane_step [.val a_, .val b_, .val c_, .val d_, .emp, .emp, .emp] (poV P X)) : Good tx.T tx.ek f_plane_step := gV4 rfl rfl (by decide) rfl rfl rfl rfl h
theorem G_is_gauss_base (h : ∀ a_ P X, sp_is_gauss_base a_ P X → wS (gxOf tx.T tx.ek f_is_gauss_base) b_is_gauss_base [.val a_] (poV P X)) : Good tx.T tx.ek f_is_gauss_base := gV1 rfl rfl (by decide) rfl rfl rfl rfl h
theorem G__law_product (h : ∀ a_ b_ c_ P X, sp__law_product a_ b_ c_ P X → wS (gxOf tx.T tx.ek f__law_product) b__law_product [.val a_, .val b_, .val c_] (poV P X)) : Good tx.T tx.ek f__law_product := gV3 rfl rfl (by decide) rfl rfl rfl rfl h
theorem G__law_norm (h : ∀ a_ b_ P X, sp__law_norm a_ b_ P X → wS (gxOf tx.T tx.ek f__law_norm) b__law_norm [.val a_, .val b_] (poV P X)) : Good tx.T tx.ek f__law_norm := gV2 rfl rfl (by decide) rfl rfl rfl rfl h
theorem G__law_over_spot (h : ∀ a_ b_ c_ P X, sp__law_over_spot a_ b_ c_ P X → wS (gxOf tx.T tx.ek f__law_over_spot) b__law_over_spot [.val a_, .val b_, .val c_, .emp, .emp] (poV P X)) : Good tx.T tx.ek f__law_over_spot := gV3 rfl rfl (by decide) rfl rfl rfl rfl h
theorem G__law_less (h : ∀ a_ b_ P X, sp__law_less a_ b_ P X → wS (gxOf tx.T tx.ek f__law_less) b__law_less [.val a_, .val b_] (poV P X)) : Good tx.T tx.ek f__law_less := gV2 rfl rfl (by decide) rfl rfl rfl rfl h
theorem G__law_ring (h : ∀ a_ P X, sp__law_ring a_ P X → wS (gxOf tx.T tx.ek f__law_ring) b__law_ring [.own a_] (poI P)) : Good tx.T tx.ek f__law_ring := gI1 rfl (by decide) rfl rfl rfl rfl h
theorem G__law_plane (h : ∀ a_ b_ P X, sp__law_plane a_ b_ P X → wS (gxOf tx.T tx.ek f__law_plane) b__law_plane [.own a_, .val b_, .emp, .emp, .emp, .emp, .emp, .emp, .emp, .emp] (poI P)) : Good tx.T tx.ek f__law_plane := gI2 rfl (by decide) rfl rfl rfl rfl h
theorem G__law_step (h : ∀ a_ b_ c_ d_ P X, sp__law_step a_ b_ c_ d_ P X → wS (gxOf tx.T tx.ek f__law_step) b__law_step [.val a_, .val b_, .val c_, .val d_, .emp, .emp] (poV P X)) : Good tx.T tx.ek f__law_step := gV4 rfl rfl (by decide) rfl rfl rfl rfl h
theorem G__law_spot (h : ∀ a_ P X, sp__law_spot a_ P X → wS (gxOf tx.T tx.ek f__law_spot) b__law_spot [.own a_, .emp] (poI P)) : Good tx.T tx.ek f__law_spot := gI1 rfl (by decide) rfl rfl rfl rfl h
theorem G__law_is_spot (h : ∀ a_ P X, sp__law_is_spot a_ P X → wS (gxOf tx.T tx.ek f__law_is_spot) b__law_is_spot [.val a_, .emp] (poV P X)) : Good tx.T tx.ek f__law_is_spot := gV1 rfl rfl (by decide) rfl rfl rfl rfl h
theorem G__law_is_base (h : ∀ a_ b_ c_ P X, sp__law_is_base a_ b_ c_ P X → wS (gxOf tx.T tx.ek f__law_is_base) b__law_is_base [.val a_, .val b_, .val c_, .emp, .emp, .emp] (poV P X)) : Good tx.T tx.ek f__law_is_base := gV3 rfl rfl (by decide) rfl rfl rfl rfl h
theorem G_law (h : ∀ (ns : List Int) P X, P (.bl true) .non → wS (gxOf tx.T tx.ek f_law) b_law [.val (.frz (ns.map D.int)), .emp, .emp, .emp, .emp, .emp, .emp, .emp, .emp, .emp, .emp, .emp, .emp, .emp, .emp, .emp, .emp, .emp, .emp, .emp] (poV P X)) : Good tx.T tx.ek f_law := by
  refine goodV rfl rfl (by decide) fun ds P X hs => ?_
  obtain ⟨ns, _, _, rfl, hp⟩ := hs
  exact ⟨rfl, h ns P X hp⟩
theorem mo_is_gauss_base {ds : List D} {P P' : D → D → Prop} {X X' : Exn → Prop} (h1 : ∀ d e, P d e → P' d e) (h2 : ∀ x, X x → X' x) : f_is_gauss_base.sp ds P X → f_is_gauss_base.sp ds P' X' := by
  exact S1_mono (fun _ => mm_is_gauss_base h1 h2)
theorem mo_is_plane_base {ds : List D} {P P' : D → D → Prop} {X X' : Exn → Prop} (h1 : ∀ d e, P d e → P' d e) (h2 : ∀ x, X x → X' x) : f_is_plane_base.sp ds P X → f_is_plane_base.sp ds P' X' := by
  exact S3_mono (fun _ _ _ => mm_is_plane_base h1 h2)
theorem mo_plain_digits {ds : List D} {P P' : D → D → Prop} {X X' : Exn → Prop} (h1 : ∀ d e, P d e → P' d e) (h2 : ∀ x, X x → X' x) : f_plain_digits.sp ds P X → f_plain_digits.sp ds P' X' := by
  exact S2_mono (fun _ _ => mm_plain_digits h1 h2)
theorem mo_spot_norm {ds : List D} {P P' : D → D → Prop} {X X' : Exn → Prop} (h1 : ∀ d e, P d e → P' d e) (h2 : ∀ x, X x → X' x) : f_spot_norm.sp ds P X → f_spot_norm.sp ds P' X' := by
  exact S2_mono (fun _ _ => mm_spot_norm h1 h2)
theorem mo_spot_over {ds : List D} {P P' : D → D → Prop} {X X' : Exn → Prop} (h1 : ∀ d e, P d e → P' d e) (h2 : ∀ x, X x → X' x) : f_spot_over.sp ds P X → f_spot_over.sp ds P' X' := by
  exact S3_mono (fun _ _ _ => mm_spot_over h1 h2)
theorem mo_spot_times {ds : List D} {P P' : D → D → Prop} {X X' : Exn → Prop} (h1 : ∀ d e, P d e → P' d e) (h2 : ∀ x, X x → X' x) : f_spot_times.sp ds P X → f_spot_times.sp ds P' X' := by
  exact S3_mono (fun _ _ _ => mm_spot_times h1 h2)
theorem mo_spot_turned {ds : List D} {P P' : D → D → Prop} {X X' : Exn → Prop} (h1 : ∀ d e, P d e → P' d e) (h2 : ∀ x, X x → X' x) : f_spot_turned.sp ds P X → f_spot_turned.sp ds P' X' := by
  exact S2_mono (fun _ _ => mm_spot_turned h1 h2)
theorem v_7 : spv 7 = S3 sp_spot_times := rfl
theorem v_9 : spv 9 = S2 sp_spot_norm := rfl
theorem v_10 : spv 10 = S2 sp_spot_turned := rfl
theorem v_11 : spv 11 = S3 sp_spot_over := rfl
theorem v_13 : spv 13 = S3 sp_is_plane_base := rfl
theorem v_14 : spv 14 = S2 sp_plain_digits := rfl
theorem v_16 : spv 16 = S1 sp_is_gauss_base := rfl
theorem spv_mono : ∀ n ds P P' Ex Ex', spv n ds P Ex → (∀ d e, P d e → P' d e) → (∀ x, Ex x → Ex' x) → spv n ds P' Ex' := by
  intro n ds P P' Ex Ex' h h1 h2
  unfold spv at h ⊢
  by_cases e7 : n = 7
  · rw [if_pos e7] at h ⊢
    exact mo_spot_times (ds := ds) h1 h2 h
  rw [if_neg e7] at h ⊢
  by_cases e9 : n = 9
  · rw [if_pos e9] at h ⊢
    exact mo_spot_norm (ds := ds) h1 h2 h
  rw [if_neg e9] at h ⊢
  by_cases e10 : n = 10
  · rw [if_pos e10] at h ⊢
    exact mo_spot_turned (ds := ds) h1 h2 h
  rw [if_neg e10] at h ⊢
  by_cases e11 : n = 11
  · rw [if_pos e11] at h ⊢
    exact mo_spot_over (ds := ds) h1 h2 h
  rw [if_neg e11] at h ⊢
  by_cases e13 : n = 13
  · rw [if_pos e13] at h ⊢
    exact mo_is_plane_base (ds := ds) h1 h2 h
  rw [if_neg e13] at h ⊢
  by_cases e14 : n = 14
  · rw [if_pos e14] at h ⊢
    exact mo_plain_digits (ds := ds) h1 h2 h
  rw [if_neg e14] at h ⊢
  by_cases e16 : n = 16
  · rw [if_pos e16] at h ⊢
    exact mo_is_gauss_base (ds := ds) h1 h2 h
  rw [if_neg e16] at h ⊢
  exact h.elim
theorem spv_ok : ∀ n ds P Ex, spv n ds P Ex → (gxOf tx.T tx.ek f__law_told).tb.lv n < (gxOf tx.T tx.ek f__law_told).k ∧ (gxOf tx.T tx.ek f__law_told).tb.io n = false ∧ (gxOf tx.T tx.ek f__law_told).sp n ds P Ex := by
  intro n ds P Ex h
  unfold spv at h
  by_cases e7 : n = 7
  · rw [if_pos e7] at h
    subst e7
    exact ⟨by decide, rfl, h⟩
  rw [if_neg e7] at h
  by_cases e9 : n = 9
  · rw [if_pos e9] at h
    subst e9
    exact ⟨by decide, rfl, h⟩
  rw [if_neg e9] at h
  by_cases e10 : n = 10
  · rw [if_pos e10] at h
    subst e10
    exact ⟨by decide, rfl, h⟩
  rw [if_neg e10] at h
  by_cases e11 : n = 11
  · rw [if_pos e11] at h
    subst e11
    exact ⟨by decide, rfl, h⟩
  rw [if_neg e11] at h
  by_cases e13 : n = 13
  · rw [if_pos e13] at h
    subst e13
    exact ⟨by decide, rfl, h⟩
  rw [if_neg e13] at h
  by_cases e14 : n = 14
  · rw [if_pos e14] at h
    subst e14
    exact ⟨by decide, rfl, h⟩
  rw [if_neg e14] at h
  by_cases e16 : n = 16
  · rw [if_pos e16] at h
    subst e16
    exact ⟨by decide, rfl, h⟩
  rw [if_neg e16] at h
  exact h.elim
theorem g_is_integer : Good tx.T tx.ek f_is_integer := goodV rfl rfl (by decide) fun ds P Ex h => M.W_isint h
theorem g_is_whole_row : Good tx.T tx.ek f_is_whole_row := goodV rfl rfl (by decide) fun ds P Ex h => M.W_isrow rfl rfl h
theorem g__law_state : Good tx.T tx.ek f__law_state := goodF rfl rfl (by decide) fun ds P Ex h => M.W_state rfl h
theorem g__law_take : Good tx.T tx.ek f__law_take := goodI rfl (by decide) fun ds P Ex h => M.W_take (Ex := Ex) rfl h
theorem g__law_says : Good tx.T tx.ek f__law_says := goodV rfl rfl (by decide) fun ds P Ex h => M.W_says h
theorem g__law_is_whole : Good tx.T tx.ek f__law_is_whole := goodV rfl rfl (by decide) fun ds P Ex h => M.W_isint h
theorem g__law_same_v : Good tx.T tx.ek f__law_same_v := fun ds P Ex h => h.elim
theorem g__law_same_0 : Good tx.T tx.ek f__law_same_0 := goodV rfl rfl (by decide) fun ds P Ex h => M.W_same rfl rfl (fun k e => by cases e) h
theorem g__law_same_1 : Good tx.T tx.ek f__law_same_1 := goodV rfl rfl (by decide) fun ds P Ex h => M.W_same rfl rfl (fun k e => by cases e; rfl) h
theorem g__law_same_2 : Good tx.T tx.ek f__law_same_2 := goodV rfl rfl (by decide) fun ds P Ex h => M.W_same rfl rfl (fun k e => by cases e; rfl) h
theorem g__law_same_3 : Good tx.T tx.ek f__law_same_3 := goodV rfl rfl (by decide) fun ds P Ex h => M.W_same rfl rfl (fun k e => by cases e; rfl) h
theorem g__law_same_4 : Good tx.T tx.ek f__law_same_4 := goodV rfl rfl (by decide) fun ds P Ex h => M.W_same rfl rfl (fun k e => by cases e; rfl) h
theorem g__law_told : Good tx.T tx.ek f__law_told := goodV rfl rfl (by decide) fun ds P Ex h => M.W_told rfl spv_ok (fun n ds P Ex Ex' a b => spv_mono n ds P P Ex Ex' a (fun _ _ z => z) b) h
theorem g__law_all_malformed : Good tx.T tx.ek f__law_all_malformed := goodV rfl rfl (by decide) fun ds P Ex h => M.W_allmal rfl rfl spv_mono h
theorem c_all : ∀ f ∈ tx.T, chk tx.T tx.ek tx.gi f = true := by
  intro f hf
  simp only [tx, List.mem_cons, List.not_mem_nil, or_false] at hf
  rcases hf with rfl | rfl | rfl | rfl | rfl | rfl | rfl | rfl | rfl | rfl | rfl | rfl | rfl | rfl | rfl | rfl | rfl | rfl | rfl | rfl | rfl | rfl | rfl | rfl | rfl | rfl | rfl | rfl | rfl | rfl | rfl | rfl | rfl | rfl | rfl | rfl | rfl | rfl | rfl | rfl
  · exact c_is_integer
  · exact c_is_whole_row
  · exact c_is_ring
  · exact c_is_spot
  · exact c_check_spots
  · exact c_spot_plus
  · exact c_spot_less
  · exact c_spot_times
  · exact c_spot_product
  · exact c_spot_norm
  · exact c_spot_turned
  · exact c_spot_over
  · exact c_spot_quotient
  · exact c_is_plane_base
  · exact c_plain_digits
  · exact c_plane_step
  · exact c_is_gauss_base
  · exact c__law_state
  · exact c__law_take
  · exact c__law_says
  · exact c__law_is_whole
  · exact c__law_same_v
  · exact c__law_same_0
  · exact c__law_same_1
  · exact c__law_same_2
  · exact c__law_same_3
  · exact c__law_same_4
  · exact c__law_told
  · exact c__law_all_malformed
  · exact c__law_product
  · exact c__law_norm
  · exact c__law_over_spot
  · exact c__law_less
  · exact c__law_ring
  · exact c__law_plane
  · exact c__law_step
  · exact c__law_spot
  · exact c__law_is_spot
  · exact c__law_is_base
  · exact c_law
theorem a_all : ∀ f ∈ tx.T, BindOk f := by
  intro f hf
  simp only [tx, List.mem_cons, List.not_mem_nil, or_false] at hf
  rcases hf with rfl | rfl | rfl | rfl | rfl | rfl | rfl | rfl | rfl | rfl | rfl | rfl | rfl | rfl | rfl | rfl | rfl | rfl | rfl | rfl | rfl | rfl | rfl | rfl | rfl | rfl | rfl | rfl | rfl | rfl | rfl | rfl | rfl | rfl | rfl | rfl | rfl | rfl | rfl | rfl
  · exact a_is_integer
  · exact a_is_whole_row
  · exact a_is_ring
  · exact a_is_spot
  · exact a_check_spots
  · exact a_spot_plus
  · exact a_spot_less
  · exact a_spot_times
  · exact a_spot_product
  · exact a_spot_norm
  · exact a_spot_turned
  · exact a_spot_over
  · exact a_spot_quotient
  · exact a_is_plane_base
  · exact a_plain_digits
  · exact a_plane_step
  · exact a_is_gauss_base
  · exact a__law_state
  · exact a__law_take
  · exact a__law_says
  · exact a__law_is_whole
  · exact a__law_same_v
  · exact a__law_same_0
  · exact a__law_same_1
  · exact a__law_same_2
  · exact a__law_same_3
  · exact a__law_same_4
  · exact a__law_told
  · exact a__law_all_malformed
  · exact a__law_product
  · exact a__law_norm
  · exact a__law_over_spot
  · exact a__law_less
  · exact a__law_ring
  · exact a__law_plane
  · exact a__law_step
  · exact a__law_spot
  · exact a__law_is_spot
  · exact a__law_is_base
  · exact a_law
end Pd.K42

/-! k42: each def of the program does what is said. -/
namespace Pd.K42
open L2 PyProof.Rows PySem.Spec PySem
local macro_rules
  | `(tactic| simp_arith [$ts,*]) => `(tactic| simp only [st_for, st_nil, st_expr, st_asg, st_asgl, st_unp, st_par, st_app, st_seti, st_ret, st_retn, st_brk, st_cnt, st_rmal, st_tr, e_int, e_bl, e_non, e_str, e_fnv, e_gint, e_bin, e_neg, e_cmp, e_isn, e_ntn, e_and, e_or, e_tup, e_lst, e_call, e_cio, e_clv, e_blt, e_isi, e_ix, e_slc, e_rev, e_lrng, e_lc, e_met, wA, wP, wT, kpN_sow, kpN_seq, kpN_rng, kpN_zip, kpN_enm, i_rng, i_seq, i_zip, i_enm, wCs, wHnd, at_, put, putAll, putCs, wTgt, rng_1, rng_2, zip_tt, zip_ll, enm_t, enm_l, cellOf, frE, frF, frB, isOwn, isOwnL, List.getElem?_cons_zero, List.getElem?_cons_succ, List.getElem?_nil, Option.getD_some, Option.getD_none, List.set_cons_zero, List.set_cons_succ, ne_eq, reduceCtorEq, not_false_eq_true, not_true_eq_false, true_and, and_true, if_true, if_false, ite_true, ite_false, Bool.false_eq_true, Bool.true_eq_false, Bool.true_and, Bool.and_true, Bool.false_and, Bool.and_false, Bool.not_true, Bool.not_false, false_implies, true_implies, forall_const, implies_true, bin_add, bin_sub, bin_mul, bin_fdiv, bin_mod, bin_adds, bin_addt, bin_addl, bin_mull, bin_mult, cmp_lt, cmp_le, cmp_gt, cmp_ge, cmp_eqi, cmp_nei, cmp_eqb, cmp_eqs, tru_bl, tru_int, tru_non, tru_tup, tru_lst, tru_frz, ix_tup, len_tup, tpl_tup, lsl_tup, slc_tup, seq_tup, ix_lst, len_lst, tpl_lst, lsl_lst, slc_lst, seq_lst, ix_frz, len_frz, tpl_frz, lsl_frz, slc_frz, seq_frz, len_str, blt_abs, blt_int, blt_intb, blt_max, blt_min, blt_str, blt_all, blt_any, blt_sum, opt_0, opt_1, atI_0, atI_1, atI_2, atI_3, atI_4, ixN_20, ixN_21, ty_bl_int, ty_bl_bool, ty_bl_str, ty_bl_tuple, ty_bl_list, ht_bl, nn_bl, mu_bl, ty_int_int, ty_int_bool, ty_int_str, ty_int_tuple, ty_int_list, ht_int, nn_int, mu_int, ty_str_int, ty_str_bool, ty_str_str, ty_str_tuple, ty_str_list, ht_str, nn_str, mu_str, ty_tup_int, ty_tup_bool, ty_tup_str, ty_tup_tuple, ty_tup_list, ht_tup, nn_tup, mu_tup, ty_lst_int, ty_lst_bool, ty_lst_str, ty_lst_tuple, ty_lst_list, ht_lst, nn_lst, mu_lst, ty_frz_int, ty_frz_bool, ty_frz_str, ty_frz_tuple, ty_frz_list, ht_frz, nn_frz, mu_frz, ty_non_int, ty_non_bool, ty_non_str, ty_non_tuple, ty_non_list, ht_non, nn_non, mu_non, List.map_cons, List.map_nil, exists_eq_left', decide_eq_true_eq, exists_eq_left, List.length_cons, List.length_nil, Nat.reduceAdd, Int.reduceEq, Int.reduceLT, Int.reduceLE, Int.reduceNeg, decide_true, decide_false, Cl.own.injEq, D.tup.injEq, List.mem_cons, List.not_mem_nil, or_false, forall_eq_or_imp, forall_eq, Option.some.injEq, strOk_digits, strOk_zero, strOk_told, strOk_refused, strOk_malformed, i_sow, sw_val, sw_own, br_t, br_f, br_not, br_dec, br_beq, beq_iff_eq, br_and, br_or, br_same, bb_bl, so_ife, eo_ite, eo_chn, eo_not, and_1, and_2, or_1, or_2, ta_n, ta_c, to_n, to_c, cmp_in, cmp_nin, inok_i, inok_int, inok_str, inok_tup, any_ints, scl_int, scl_str, scl_bl, scl_non, sizeLine, Nat.reducePow, blt_maxl, blt_minl, Int.cast_ofNat_Int, st_rexc, rx_ref, rx_nt, cmp_tt, cmn_tt, cmp_ll, cmn_ll, okD_int, okD_bl, okD_non, okD_str, okD_tup, okD_lst, okDs_nil, okDs_cons, depD_int, depD_bl, depD_non, depD_str, depD_tup, depD_lst, depDs_nil, depDs_cons, eqok_ti, eqok_li, eqok_t, eqok_l, okDs_ints, depDs_ints, eq_int, eq_bl, eq_str, eq_non, eq_tup, eq_lst, eqs_nil, eqs_nc, eqs_cn, eqs_ints, eqs_cons, Nat.max_self, Nat.zero_max, Nat.max_zero, Nat.zero_add, Nat.le_refl, Nat.zero_le, pkv_val, pkv_own, evv_val, evv_own, rtv_val, rtv_own, rd_dat, rd_slot, dm_val, dm_own, ev_var, pk_var, rt_var, pk_int, rt_int, pk_bl, rt_bl, pk_non, rt_non, pk_str, rt_str, pk_fnv, rt_fnv, pk_gint, rt_gint, pk_bin, rt_bin, pk_neg, rt_neg, pk_not, rt_not, pk_cmp, rt_cmp, pk_chn, rt_chn, pk_isn, rt_isn, pk_ntn, rt_ntn, pk_and, rt_and, pk_or, rt_or, pk_ite, rt_ite, pk_tup, rt_tup, pk_lst, rt_lst, pk_call, rt_call, pk_cio, rt_cio, pk_clv, rt_clv, pk_blt, rt_blt, pk_isi, rt_isi, pk_ix, rt_ix, pk_slc, rt_slc, pk_rev, rt_rev, pk_lrng, rt_lrng, pk_lc, rt_lc, pk_met, rt_met, S0_eq, S1_eq, S2_eq, S3_eq, S4_eq, S5_eq, S6_eq, M.isint_eq, M.iscnt_eq, M.chkcnt_eq, M.isrow_eq, M.isword_eq, M.state_eq, M.take_eq, M.great_eq, M.says_eq, M.same_eq, M.told_eq, M.allmal_eq, M.badD_eq, M.toldX_mal, M.toldX_ref, M.isI_int, M.isI_bl, M.isI_non, M.isI_str, M.isI_tup, M.isI_lst, M.cnt_i, M.cnt_bl, M.cnt_non, M.cnt_str, M.cnt_tup, M.cnt_lst, M.says_bl, M.says_int, M.says_non, M.isRow_tup, M.isRow_ints, M.isRow_int, M.isRow_bl, M.isRow_non, M.isRow_str, M.isRow_lst, M.rowOk_int, M.rowOk_bl, M.rowOk_non, M.rowOk_str, M.rowOk_lst, M.rowOk_ints, M.rowOk_tup, M.isWord_ints, M.seen_int, M.seen_bl, M.seen_str, M.seen_non, M.seen_lst, M.seen_ints, M.seen_tup, M.due_int, M.due_bl, M.due_str, M.due_non, M.due_t1, M.due_t2, M.due_t3, M.due_t4, M.due_t5, M.due_t6, M.due_l2, M.due_l3, M.due_l4, M.due_l5, M.due_l6, M.same_int, M.same_bl, M.same_str, M.same_non, M.same_tup, M.same_tlst, M.sames_nil, M.sames_cons, List.all_cons, List.all_nil, em, List.replicate_succ, List.replicate_zero, and_self, imp_self, List.any_cons, List.any_nil, Bool.or_true, Bool.true_or, Bool.or_false, Bool.false_or, Bool.or_self, Bool.and_self, Int.reduceAdd, Int.reduceSub, Int.reduceMul, Nat.reduceLeDiff, Nat.reduceLT, Nat.reduceEqDiff, Int.reduceAbs, Int.reduceToNat, Int.toNat_natCast, s_is_integer, fr_is_integer, p_is_integer, s_is_whole_row, fr_is_whole_row, p_is_whole_row, s_is_ring, fr_is_ring, p_is_ring, s_is_spot, fr_is_spot, p_is_spot, s_check_spots, fr_check_spots, p_check_spots, s_spot_plus, fr_spot_plus, p_spot_plus, s_spot_less, fr_spot_less, p_spot_less, s_spot_times, fr_spot_times, p_spot_times, s_spot_product, fr_spot_product, p_spot_product, s_spot_norm, fr_spot_norm, p_spot_norm, s_spot_turned, fr_spot_turned, p_spot_turned, s_spot_over, fr_spot_over, p_spot_over, s_spot_quotient, fr_spot_quotient, p_spot_quotient, s_is_plane_base, fr_is_plane_base, p_is_plane_base, s_plain_digits, fr_plain_digits, p_plain_digits, s_plane_step, fr_plane_step, p_plane_step, s_is_gauss_base, fr_is_gauss_base, p_is_gauss_base, s__law_state, fr__law_state, p__law_state, s__law_take, fr__law_take, p__law_take, s__law_says, fr__law_says, p__law_says, s__law_is_whole, fr__law_is_whole, p__law_is_whole, s__law_same_v, fr__law_same_v, p__law_same_v, s__law_same_0, fr__law_same_0, p__law_same_0, s__law_same_1, fr__law_same_1, p__law_same_1, s__law_same_2, fr__law_same_2, p__law_same_2, s__law_same_3, fr__law_same_3, p__law_same_3, s__law_same_4, fr__law_same_4, p__law_same_4, s__law_told, fr__law_told, p__law_told, s__law_all_malformed, fr__law_all_malformed, p__law_all_malformed, s__law_product, fr__law_product, p__law_product, s__law_norm, fr__law_norm, p__law_norm, s__law_over_spot, fr__law_over_spot, p__law_over_spot, s__law_less, fr__law_less, p__law_less, s__law_ring, fr__law_ring, p__law_ring, s__law_plane, fr__law_plane, p__law_plane, s__law_step, fr__law_step, p__law_step, s__law_spot, fr__law_spot, p__law_spot, s__law_is_spot, fr__law_is_spot, p__law_is_spot, s__law_is_base, fr__law_is_base, p__law_is_base, s_law, fr_law, p_law, v_7, v_9, v_10, v_11, v_13, v_14, v_16, $ts,*])
  | `(tactic| simp_arith) => `(tactic| simp only [st_for, st_nil, st_expr, st_asg, st_asgl, st_unp, st_par, st_app, st_seti, st_ret, st_retn, st_brk, st_cnt, st_rmal, st_tr, e_int, e_bl, e_non, e_str, e_fnv, e_gint, e_bin, e_neg, e_cmp, e_isn, e_ntn, e_and, e_or, e_tup, e_lst, e_call, e_cio, e_clv, e_blt, e_isi, e_ix, e_slc, e_rev, e_lrng, e_lc, e_met, wA, wP, wT, kpN_sow, kpN_seq, kpN_rng, kpN_zip, kpN_enm, i_rng, i_seq, i_zip, i_enm, wCs, wHnd, at_, put, putAll, putCs, wTgt, rng_1, rng_2, zip_tt, zip_ll, enm_t, enm_l, cellOf, frE, frF, frB, isOwn, isOwnL, List.getElem?_cons_zero, List.getElem?_cons_succ, List.getElem?_nil, Option.getD_some, Option.getD_none, List.set_cons_zero, List.set_cons_succ, ne_eq, reduceCtorEq, not_false_eq_true, not_true_eq_false, true_and, and_true, if_true, if_false, ite_true, ite_false, Bool.false_eq_true, Bool.true_eq_false, Bool.true_and, Bool.and_true, Bool.false_and, Bool.and_false, Bool.not_true, Bool.not_false, false_implies, true_implies, forall_const, implies_true, bin_add, bin_sub, bin_mul, bin_fdiv, bin_mod, bin_adds, bin_addt, bin_addl, bin_mull, bin_mult, cmp_lt, cmp_le, cmp_gt, cmp_ge, cmp_eqi, cmp_nei, cmp_eqb, cmp_eqs, tru_bl, tru_int, tru_non, tru_tup, tru_lst, tru_frz, ix_tup, len_tup, tpl_tup, lsl_tup, slc_tup, seq_tup, ix_lst, len_lst, tpl_lst, lsl_lst, slc_lst, seq_lst, ix_frz, len_frz, tpl_frz, lsl_frz, slc_frz, seq_frz, len_str, blt_abs, blt_int, blt_intb, blt_max, blt_min, blt_str, blt_all, blt_any, blt_sum, opt_0, opt_1, atI_0, atI_1, atI_2, atI_3, atI_4, ixN_20, ixN_21, ty_bl_int, ty_bl_bool, ty_bl_str, ty_bl_tuple, ty_bl_list, ht_bl, nn_bl, mu_bl, ty_int_int, ty_int_bool, ty_int_str, ty_int_tuple, ty_int_list, ht_int, nn_int, mu_int, ty_str_int, ty_str_bool, ty_str_str, ty_str_tuple, ty_str_list, ht_str, nn_str, mu_str, ty_tup_int, ty_tup_bool, ty_tup_str, ty_tup_tuple, ty_tup_list, ht_tup, nn_tup, mu_tup, ty_lst_int, ty_lst_bool, ty_lst_str, ty_lst_tuple, ty_lst_list, ht_lst, nn_lst, mu_lst, ty_frz_int, ty_frz_bool, ty_frz_str, ty_frz_tuple, ty_frz_list, ht_frz, nn_frz, mu_frz, ty_non_int, ty_non_bool, ty_non_str, ty_non_tuple, ty_non_list, ht_non, nn_non, mu_non, List.map_cons, List.map_nil, exists_eq_left', decide_eq_true_eq, exists_eq_left, List.length_cons, List.length_nil, Nat.reduceAdd, Int.reduceEq, Int.reduceLT, Int.reduceLE, Int.reduceNeg, decide_true, decide_false, Cl.own.injEq, D.tup.injEq, List.mem_cons, List.not_mem_nil, or_false, forall_eq_or_imp, forall_eq, Option.some.injEq, strOk_digits, strOk_zero, strOk_told, strOk_refused, strOk_malformed, i_sow, sw_val, sw_own, br_t, br_f, br_not, br_dec, br_beq, beq_iff_eq, br_and, br_or, br_same, bb_bl, so_ife, eo_ite, eo_chn, eo_not, and_1, and_2, or_1, or_2, ta_n, ta_c, to_n, to_c, cmp_in, cmp_nin, inok_i, inok_int, inok_str, inok_tup, any_ints, scl_int, scl_str, scl_bl, scl_non, sizeLine, Nat.reducePow, blt_maxl, blt_minl, Int.cast_ofNat_Int, st_rexc, rx_ref, rx_nt, cmp_tt, cmn_tt, cmp_ll, cmn_ll, okD_int, okD_bl, okD_non, okD_str, okD_tup, okD_lst, okDs_nil, okDs_cons, depD_int, depD_bl, depD_non, depD_str, depD_tup, depD_lst, depDs_nil, depDs_cons, eqok_ti, eqok_li, eqok_t, eqok_l, okDs_ints, depDs_ints, eq_int, eq_bl, eq_str, eq_non, eq_tup, eq_lst, eqs_nil, eqs_nc, eqs_cn, eqs_ints, eqs_cons, Nat.max_self, Nat.zero_max, Nat.max_zero, Nat.zero_add, Nat.le_refl, Nat.zero_le, pkv_val, pkv_own, evv_val, evv_own, rtv_val, rtv_own, rd_dat, rd_slot, dm_val, dm_own, ev_var, pk_var, rt_var, pk_int, rt_int, pk_bl, rt_bl, pk_non, rt_non, pk_str, rt_str, pk_fnv, rt_fnv, pk_gint, rt_gint, pk_bin, rt_bin, pk_neg, rt_neg, pk_not, rt_not, pk_cmp, rt_cmp, pk_chn, rt_chn, pk_isn, rt_isn, pk_ntn, rt_ntn, pk_and, rt_and, pk_or, rt_or, pk_ite, rt_ite, pk_tup, rt_tup, pk_lst, rt_lst, pk_call, rt_call, pk_cio, rt_cio, pk_clv, rt_clv, pk_blt, rt_blt, pk_isi, rt_isi, pk_ix, rt_ix, pk_slc, rt_slc, pk_rev, rt_rev, pk_lrng, rt_lrng, pk_lc, rt_lc, pk_met, rt_met, S0_eq, S1_eq, S2_eq, S3_eq, S4_eq, S5_eq, S6_eq, M.isint_eq, M.iscnt_eq, M.chkcnt_eq, M.isrow_eq, M.isword_eq, M.state_eq, M.take_eq, M.great_eq, M.says_eq, M.same_eq, M.told_eq, M.allmal_eq, M.badD_eq, M.toldX_mal, M.toldX_ref, M.isI_int, M.isI_bl, M.isI_non, M.isI_str, M.isI_tup, M.isI_lst, M.cnt_i, M.cnt_bl, M.cnt_non, M.cnt_str, M.cnt_tup, M.cnt_lst, M.says_bl, M.says_int, M.says_non, M.isRow_tup, M.isRow_ints, M.isRow_int, M.isRow_bl, M.isRow_non, M.isRow_str, M.isRow_lst, M.rowOk_int, M.rowOk_bl, M.rowOk_non, M.rowOk_str, M.rowOk_lst, M.rowOk_ints, M.rowOk_tup, M.isWord_ints, M.seen_int, M.seen_bl, M.seen_str, M.seen_non, M.seen_lst, M.seen_ints, M.seen_tup, M.due_int, M.due_bl, M.due_str, M.due_non, M.due_t1, M.due_t2, M.due_t3, M.due_t4, M.due_t5, M.due_t6, M.due_l2, M.due_l3, M.due_l4, M.due_l5, M.due_l6, M.same_int, M.same_bl, M.same_str, M.same_non, M.same_tup, M.same_tlst, M.sames_nil, M.sames_cons, List.all_cons, List.all_nil, em, List.replicate_succ, List.replicate_zero, and_self, imp_self, List.any_cons, List.any_nil, Bool.or_true, Bool.true_or, Bool.or_false, Bool.false_or, Bool.or_self, Bool.and_self, Int.reduceAdd, Int.reduceSub, Int.reduceMul, Nat.reduceLeDiff, Nat.reduceLT, Nat.reduceEqDiff, Int.reduceAbs, Int.reduceToNat, Int.toNat_natCast, s_is_integer, fr_is_integer, p_is_integer, s_is_whole_row, fr_is_whole_row, p_is_whole_row, s_is_ring, fr_is_ring, p_is_ring, s_is_spot, fr_is_spot, p_is_spot, s_check_spots, fr_check_spots, p_check_spots, s_spot_plus, fr_spot_plus, p_spot_plus, s_spot_less, fr_spot_less, p_spot_less, s_spot_times, fr_spot_times, p_spot_times, s_spot_product, fr_spot_product, p_spot_product, s_spot_norm, fr_spot_norm, p_spot_norm, s_spot_turned, fr_spot_turned, p_spot_turned, s_spot_over, fr_spot_over, p_spot_over, s_spot_quotient, fr_spot_quotient, p_spot_quotient, s_is_plane_base, fr_is_plane_base, p_is_plane_base, s_plain_digits, fr_plain_digits, p_plain_digits, s_plane_step, fr_plane_step, p_plane_step, s_is_gauss_base, fr_is_gauss_base, p_is_gauss_base, s__law_state, fr__law_state, p__law_state, s__law_take, fr__law_take, p__law_take, s__law_says, fr__law_says, p__law_says, s__law_is_whole, fr__law_is_whole, p__law_is_whole, s__law_same_v, fr__law_same_v, p__law_same_v, s__law_same_0, fr__law_same_0, p__law_same_0, s__law_same_1, fr__law_same_1, p__law_same_1, s__law_same_2, fr__law_same_2, p__law_same_2, s__law_same_3, fr__law_same_3, p__law_same_3, s__law_same_4, fr__law_same_4, p__law_same_4, s__law_told, fr__law_told, p__law_told, s__law_all_malformed, fr__law_all_malformed, p__law_all_malformed, s__law_product, fr__law_product, p__law_product, s__law_norm, fr__law_norm, p__law_norm, s__law_over_spot, fr__law_over_spot, p__law_over_spot, s__law_less, fr__law_less, p__law_less, s__law_ring, fr__law_ring, p__law_ring, s__law_plane, fr__law_plane, p__law_plane, s__law_step, fr__law_step, p__law_step, s__law_spot, fr__law_spot, p__law_spot, s__law_is_spot, fr__law_is_spot, p__law_is_spot, s__law_is_base, fr__law_is_base, p__law_is_base, s_law, fr_law, p_law, v_7, v_9, v_10, v_11, v_13, v_14, v_16])
local macro_rules
  | `(tactic| simp_arith! [$ts,*]) => `(tactic| simp only [st_for, st_nil, st_ret, st_retn, st_brk, st_cnt, st_rmal, e_int, e_bl, e_non, e_str, e_fnv, e_gint, e_bin, e_neg, e_cmp, e_isn, e_ntn, e_and, e_or, e_tup, e_lst, e_call, e_cio, e_clv, e_blt, e_isi, e_ix, e_slc, e_rev, e_lrng, e_lc, e_met, wA, wP, wT, kpN_sow, kpN_seq, kpN_rng, kpN_zip, kpN_enm, i_rng, i_seq, i_zip, i_enm, wCs, wHnd, at_, put, putAll, putCs, wTgt, rng_1, rng_2, zip_tt, zip_ll, enm_t, enm_l, cellOf, frE, frF, frB, isOwn, isOwnL, List.getElem?_cons_zero, List.getElem?_cons_succ, List.getElem?_nil, Option.getD_some, Option.getD_none, List.set_cons_zero, List.set_cons_succ, ne_eq, reduceCtorEq, not_false_eq_true, not_true_eq_false, true_and, and_true, if_true, if_false, ite_true, ite_false, Bool.false_eq_true, Bool.true_eq_false, Bool.true_and, Bool.and_true, Bool.false_and, Bool.and_false, Bool.not_true, Bool.not_false, false_implies, true_implies, forall_const, implies_true, bin_add, bin_sub, bin_mul, bin_fdiv, bin_mod, bin_adds, bin_addt, bin_addl, bin_mull, bin_mult, cmp_lt, cmp_le, cmp_gt, cmp_ge, cmp_eqi, cmp_nei, cmp_eqb, cmp_eqs, tru_bl, tru_int, tru_non, tru_tup, tru_lst, tru_frz, ix_tup, len_tup, tpl_tup, lsl_tup, slc_tup, seq_tup, ix_lst, len_lst, tpl_lst, lsl_lst, slc_lst, seq_lst, ix_frz, len_frz, tpl_frz, lsl_frz, slc_frz, seq_frz, len_str, blt_abs, blt_int, blt_intb, blt_max, blt_min, blt_str, blt_all, blt_any, blt_sum, opt_0, opt_1, atI_0, atI_1, atI_2, atI_3, atI_4, ixN_20, ixN_21, ty_bl_int, ty_bl_bool, ty_bl_str, ty_bl_tuple, ty_bl_list, ht_bl, nn_bl, mu_bl, ty_int_int, ty_int_bool, ty_int_str, ty_int_tuple, ty_int_list, ht_int, nn_int, mu_int, ty_str_int, ty_str_bool, ty_str_str, ty_str_tuple, ty_str_list, ht_str, nn_str, mu_str, ty_tup_int, ty_tup_bool, ty_tup_str, ty_tup_tuple, ty_tup_list, ht_tup, nn_tup, mu_tup, ty_lst_int, ty_lst_bool, ty_lst_str, ty_lst_tuple, ty_lst_list, ht_lst, nn_lst, mu_lst, ty_frz_int, ty_frz_bool, ty_frz_str, ty_frz_tuple, ty_frz_list, ht_frz, nn_frz, mu_frz, ty_non_int, ty_non_bool, ty_non_str, ty_non_tuple, ty_non_list, ht_non, nn_non, mu_non, List.map_cons, List.map_nil, exists_eq_left', decide_eq_true_eq, exists_eq_left, List.length_cons, List.length_nil, Nat.reduceAdd, Int.reduceEq, Int.reduceLT, Int.reduceLE, Int.reduceNeg, decide_true, decide_false, Cl.own.injEq, D.tup.injEq, List.mem_cons, List.not_mem_nil, or_false, forall_eq_or_imp, forall_eq, Option.some.injEq, strOk_digits, strOk_zero, strOk_told, strOk_refused, strOk_malformed, i_sow, sw_val, sw_own, br_t, br_f, br_not, br_dec, br_beq, beq_iff_eq, br_and, br_or, br_same, bb_bl, eo_ite, eo_chn, eo_not, and_1, and_2, or_1, or_2, ta_n, ta_c, to_n, to_c, cmp_in, cmp_nin, inok_i, inok_int, inok_str, inok_tup, any_ints, scl_int, scl_str, scl_bl, scl_non, sizeLine, Nat.reducePow, blt_maxl, blt_minl, Int.cast_ofNat_Int, st_rexc, rx_ref, rx_nt, cmp_tt, cmn_tt, cmp_ll, cmn_ll, okD_int, okD_bl, okD_non, okD_str, okD_tup, okD_lst, okDs_nil, okDs_cons, depD_int, depD_bl, depD_non, depD_str, depD_tup, depD_lst, depDs_nil, depDs_cons, eqok_ti, eqok_li, eqok_t, eqok_l, okDs_ints, depDs_ints, eq_int, eq_bl, eq_str, eq_non, eq_tup, eq_lst, eqs_nil, eqs_nc, eqs_cn, eqs_ints, eqs_cons, Nat.max_self, Nat.zero_max, Nat.max_zero, Nat.zero_add, Nat.le_refl, Nat.zero_le, pkv_val, pkv_own, evv_val, evv_own, rtv_val, rtv_own, rd_dat, rd_slot, dm_val, dm_own, ev_var, pk_var, rt_var, pk_int, rt_int, pk_bl, rt_bl, pk_non, rt_non, pk_str, rt_str, pk_fnv, rt_fnv, pk_gint, rt_gint, pk_bin, rt_bin, pk_neg, rt_neg, pk_not, rt_not, pk_cmp, rt_cmp, pk_chn, rt_chn, pk_isn, rt_isn, pk_ntn, rt_ntn, pk_and, rt_and, pk_or, rt_or, pk_ite, rt_ite, pk_tup, rt_tup, pk_lst, rt_lst, pk_call, rt_call, pk_cio, rt_cio, pk_clv, rt_clv, pk_blt, rt_blt, pk_isi, rt_isi, pk_ix, rt_ix, pk_slc, rt_slc, pk_rev, rt_rev, pk_lrng, rt_lrng, pk_lc, rt_lc, pk_met, rt_met, S0_eq, S1_eq, S2_eq, S3_eq, S4_eq, S5_eq, S6_eq, M.isint_eq, M.iscnt_eq, M.chkcnt_eq, M.isrow_eq, M.isword_eq, M.state_eq, M.take_eq, M.great_eq, M.says_eq, M.same_eq, M.told_eq, M.allmal_eq, M.badD_eq, M.toldX_mal, M.toldX_ref, M.isI_int, M.isI_bl, M.isI_non, M.isI_str, M.isI_tup, M.isI_lst, M.cnt_i, M.cnt_bl, M.cnt_non, M.cnt_str, M.cnt_tup, M.cnt_lst, M.says_bl, M.says_int, M.says_non, M.isRow_tup, M.isRow_ints, M.isRow_int, M.isRow_bl, M.isRow_non, M.isRow_str, M.isRow_lst, M.rowOk_int, M.rowOk_bl, M.rowOk_non, M.rowOk_str, M.rowOk_lst, M.rowOk_ints, M.rowOk_tup, M.isWord_ints, M.seen_int, M.seen_bl, M.seen_str, M.seen_non, M.seen_lst, M.seen_ints, M.seen_tup, M.due_int, M.due_bl, M.due_str, M.due_non, M.due_t1, M.due_t2, M.due_t3, M.due_t4, M.due_t5, M.due_t6, M.due_l2, M.due_l3, M.due_l4, M.due_l5, M.due_l6, M.same_int, M.same_bl, M.same_str, M.same_non, M.same_tup, M.same_tlst, M.sames_nil, M.sames_cons, List.all_cons, List.all_nil, em, List.replicate_succ, List.replicate_zero, and_self, imp_self, List.any_cons, List.any_nil, Bool.or_true, Bool.true_or, Bool.or_false, Bool.false_or, Bool.or_self, Bool.and_self, Int.reduceAdd, Int.reduceSub, Int.reduceMul, Nat.reduceLeDiff, Nat.reduceLT, Nat.reduceEqDiff, Int.reduceAbs, Int.reduceToNat, Int.toNat_natCast, s_is_integer, fr_is_integer, p_is_integer, s_is_whole_row, fr_is_whole_row, p_is_whole_row, s_is_ring, fr_is_ring, p_is_ring, s_is_spot, fr_is_spot, p_is_spot, s_check_spots, fr_check_spots, p_check_spots, s_spot_plus, fr_spot_plus, p_spot_plus, s_spot_less, fr_spot_less, p_spot_less, s_spot_times, fr_spot_times, p_spot_times, s_spot_product, fr_spot_product, p_spot_product, s_spot_norm, fr_spot_norm, p_spot_norm, s_spot_turned, fr_spot_turned, p_spot_turned, s_spot_over, fr_spot_over, p_spot_over, s_spot_quotient, fr_spot_quotient, p_spot_quotient, s_is_plane_base, fr_is_plane_base, p_is_plane_base, s_plain_digits, fr_plain_digits, p_plain_digits, s_plane_step, fr_plane_step, p_plane_step, s_is_gauss_base, fr_is_gauss_base, p_is_gauss_base, s__law_state, fr__law_state, p__law_state, s__law_take, fr__law_take, p__law_take, s__law_says, fr__law_says, p__law_says, s__law_is_whole, fr__law_is_whole, p__law_is_whole, s__law_same_v, fr__law_same_v, p__law_same_v, s__law_same_0, fr__law_same_0, p__law_same_0, s__law_same_1, fr__law_same_1, p__law_same_1, s__law_same_2, fr__law_same_2, p__law_same_2, s__law_same_3, fr__law_same_3, p__law_same_3, s__law_same_4, fr__law_same_4, p__law_same_4, s__law_told, fr__law_told, p__law_told, s__law_all_malformed, fr__law_all_malformed, p__law_all_malformed, s__law_product, fr__law_product, p__law_product, s__law_norm, fr__law_norm, p__law_norm, s__law_over_spot, fr__law_over_spot, p__law_over_spot, s__law_less, fr__law_less, p__law_less, s__law_ring, fr__law_ring, p__law_ring, s__law_plane, fr__law_plane, p__law_plane, s__law_step, fr__law_step, p__law_step, s__law_spot, fr__law_spot, p__law_spot, s__law_is_spot, fr__law_is_spot, p__law_is_spot, s__law_is_base, fr__law_is_base, p__law_is_base, s_law, fr_law, p_law, v_7, v_9, v_10, v_11, v_13, v_14, v_16, sn_expr, sn_asg, sn_asgl, sn_unp, sn_par, sn_app, sn_seti, sn_tr, so_ifn, $ts,*])
  | `(tactic| simp_arith!) => `(tactic| simp only [st_for, st_nil, st_ret, st_retn, st_brk, st_cnt, st_rmal, e_int, e_bl, e_non, e_str, e_fnv, e_gint, e_bin, e_neg, e_cmp, e_isn, e_ntn, e_and, e_or, e_tup, e_lst, e_call, e_cio, e_clv, e_blt, e_isi, e_ix, e_slc, e_rev, e_lrng, e_lc, e_met, wA, wP, wT, kpN_sow, kpN_seq, kpN_rng, kpN_zip, kpN_enm, i_rng, i_seq, i_zip, i_enm, wCs, wHnd, at_, put, putAll, putCs, wTgt, rng_1, rng_2, zip_tt, zip_ll, enm_t, enm_l, cellOf, frE, frF, frB, isOwn, isOwnL, List.getElem?_cons_zero, List.getElem?_cons_succ, List.getElem?_nil, Option.getD_some, Option.getD_none, List.set_cons_zero, List.set_cons_succ, ne_eq, reduceCtorEq, not_false_eq_true, not_true_eq_false, true_and, and_true, if_true, if_false, ite_true, ite_false, Bool.false_eq_true, Bool.true_eq_false, Bool.true_and, Bool.and_true, Bool.false_and, Bool.and_false, Bool.not_true, Bool.not_false, false_implies, true_implies, forall_const, implies_true, bin_add, bin_sub, bin_mul, bin_fdiv, bin_mod, bin_adds, bin_addt, bin_addl, bin_mull, bin_mult, cmp_lt, cmp_le, cmp_gt, cmp_ge, cmp_eqi, cmp_nei, cmp_eqb, cmp_eqs, tru_bl, tru_int, tru_non, tru_tup, tru_lst, tru_frz, ix_tup, len_tup, tpl_tup, lsl_tup, slc_tup, seq_tup, ix_lst, len_lst, tpl_lst, lsl_lst, slc_lst, seq_lst, ix_frz, len_frz, tpl_frz, lsl_frz, slc_frz, seq_frz, len_str, blt_abs, blt_int, blt_intb, blt_max, blt_min, blt_str, blt_all, blt_any, blt_sum, opt_0, opt_1, atI_0, atI_1, atI_2, atI_3, atI_4, ixN_20, ixN_21, ty_bl_int, ty_bl_bool, ty_bl_str, ty_bl_tuple, ty_bl_list, ht_bl, nn_bl, mu_bl, ty_int_int, ty_int_bool, ty_int_str, ty_int_tuple, ty_int_list, ht_int, nn_int, mu_int, ty_str_int, ty_str_bool, ty_str_str, ty_str_tuple, ty_str_list, ht_str, nn_str, mu_str, ty_tup_int, ty_tup_bool, ty_tup_str, ty_tup_tuple, ty_tup_list, ht_tup, nn_tup, mu_tup, ty_lst_int, ty_lst_bool, ty_lst_str, ty_lst_tuple, ty_lst_list, ht_lst, nn_lst, mu_lst, ty_frz_int, ty_frz_bool, ty_frz_str, ty_frz_tuple, ty_frz_list, ht_frz, nn_frz, mu_frz, ty_non_int, ty_non_bool, ty_non_str, ty_non_tuple, ty_non_list, ht_non, nn_non, mu_non, List.map_cons, List.map_nil, exists_eq_left', decide_eq_true_eq, exists_eq_left, List.length_cons, List.length_nil, Nat.reduceAdd, Int.reduceEq, Int.reduceLT, Int.reduceLE, Int.reduceNeg, decide_true, decide_false, Cl.own.injEq, D.tup.injEq, List.mem_cons, List.not_mem_nil, or_false, forall_eq_or_imp, forall_eq, Option.some.injEq, strOk_digits, strOk_zero, strOk_told, strOk_refused, strOk_malformed, i_sow, sw_val, sw_own, br_t, br_f, br_not, br_dec, br_beq, beq_iff_eq, br_and, br_or, br_same, bb_bl, eo_ite, eo_chn, eo_not, and_1, and_2, or_1, or_2, ta_n, ta_c, to_n, to_c, cmp_in, cmp_nin, inok_i, inok_int, inok_str, inok_tup, any_ints, scl_int, scl_str, scl_bl, scl_non, sizeLine, Nat.reducePow, blt_maxl, blt_minl, Int.cast_ofNat_Int, st_rexc, rx_ref, rx_nt, cmp_tt, cmn_tt, cmp_ll, cmn_ll, okD_int, okD_bl, okD_non, okD_str, okD_tup, okD_lst, okDs_nil, okDs_cons, depD_int, depD_bl, depD_non, depD_str, depD_tup, depD_lst, depDs_nil, depDs_cons, eqok_ti, eqok_li, eqok_t, eqok_l, okDs_ints, depDs_ints, eq_int, eq_bl, eq_str, eq_non, eq_tup, eq_lst, eqs_nil, eqs_nc, eqs_cn, eqs_ints, eqs_cons, Nat.max_self, Nat.zero_max, Nat.max_zero, Nat.zero_add, Nat.le_refl, Nat.zero_le, pkv_val, pkv_own, evv_val, evv_own, rtv_val, rtv_own, rd_dat, rd_slot, dm_val, dm_own, ev_var, pk_var, rt_var, pk_int, rt_int, pk_bl, rt_bl, pk_non, rt_non, pk_str, rt_str, pk_fnv, rt_fnv, pk_gint, rt_gint, pk_bin, rt_bin, pk_neg, rt_neg, pk_not, rt_not, pk_cmp, rt_cmp, pk_chn, rt_chn, pk_isn, rt_isn, pk_ntn, rt_ntn, pk_and, rt_and, pk_or, rt_or, pk_ite, rt_ite, pk_tup, rt_tup, pk_lst, rt_lst, pk_call, rt_call, pk_cio, rt_cio, pk_clv, rt_clv, pk_blt, rt_blt, pk_isi, rt_isi, pk_ix, rt_ix, pk_slc, rt_slc, pk_rev, rt_rev, pk_lrng, rt_lrng, pk_lc, rt_lc, pk_met, rt_met, S0_eq, S1_eq, S2_eq, S3_eq, S4_eq, S5_eq, S6_eq, M.isint_eq, M.iscnt_eq, M.chkcnt_eq, M.isrow_eq, M.isword_eq, M.state_eq, M.take_eq, M.great_eq, M.says_eq, M.same_eq, M.told_eq, M.allmal_eq, M.badD_eq, M.toldX_mal, M.toldX_ref, M.isI_int, M.isI_bl, M.isI_non, M.isI_str, M.isI_tup, M.isI_lst, M.cnt_i, M.cnt_bl, M.cnt_non, M.cnt_str, M.cnt_tup, M.cnt_lst, M.says_bl, M.says_int, M.says_non, M.isRow_tup, M.isRow_ints, M.isRow_int, M.isRow_bl, M.isRow_non, M.isRow_str, M.isRow_lst, M.rowOk_int, M.rowOk_bl, M.rowOk_non, M.rowOk_str, M.rowOk_lst, M.rowOk_ints, M.rowOk_tup, M.isWord_ints, M.seen_int, M.seen_bl, M.seen_str, M.seen_non, M.seen_lst, M.seen_ints, M.seen_tup, M.due_int, M.due_bl, M.due_str, M.due_non, M.due_t1, M.due_t2, M.due_t3, M.due_t4, M.due_t5, M.due_t6, M.due_l2, M.due_l3, M.due_l4, M.due_l5, M.due_l6, M.same_int, M.same_bl, M.same_str, M.same_non, M.same_tup, M.same_tlst, M.sames_nil, M.sames_cons, List.all_cons, List.all_nil, em, List.replicate_succ, List.replicate_zero, and_self, imp_self, List.any_cons, List.any_nil, Bool.or_true, Bool.true_or, Bool.or_false, Bool.false_or, Bool.or_self, Bool.and_self, Int.reduceAdd, Int.reduceSub, Int.reduceMul, Nat.reduceLeDiff, Nat.reduceLT, Nat.reduceEqDiff, Int.reduceAbs, Int.reduceToNat, Int.toNat_natCast, s_is_integer, fr_is_integer, p_is_integer, s_is_whole_row, fr_is_whole_row, p_is_whole_row, s_is_ring, fr_is_ring, p_is_ring, s_is_spot, fr_is_spot, p_is_spot, s_check_spots, fr_check_spots, p_check_spots, s_spot_plus, fr_spot_plus, p_spot_plus, s_spot_less, fr_spot_less, p_spot_less, s_spot_times, fr_spot_times, p_spot_times, s_spot_product, fr_spot_product, p_spot_product, s_spot_norm, fr_spot_norm, p_spot_norm, s_spot_turned, fr_spot_turned, p_spot_turned, s_spot_over, fr_spot_over, p_spot_over, s_spot_quotient, fr_spot_quotient, p_spot_quotient, s_is_plane_base, fr_is_plane_base, p_is_plane_base, s_plain_digits, fr_plain_digits, p_plain_digits, s_plane_step, fr_plane_step, p_plane_step, s_is_gauss_base, fr_is_gauss_base, p_is_gauss_base, s__law_state, fr__law_state, p__law_state, s__law_take, fr__law_take, p__law_take, s__law_says, fr__law_says, p__law_says, s__law_is_whole, fr__law_is_whole, p__law_is_whole, s__law_same_v, fr__law_same_v, p__law_same_v, s__law_same_0, fr__law_same_0, p__law_same_0, s__law_same_1, fr__law_same_1, p__law_same_1, s__law_same_2, fr__law_same_2, p__law_same_2, s__law_same_3, fr__law_same_3, p__law_same_3, s__law_same_4, fr__law_same_4, p__law_same_4, s__law_told, fr__law_told, p__law_told, s__law_all_malformed, fr__law_all_malformed, p__law_all_malformed, s__law_product, fr__law_product, p__law_product, s__law_norm, fr__law_norm, p__law_norm, s__law_over_spot, fr__law_over_spot, p__law_over_spot, s__law_less, fr__law_less, p__law_less, s__law_ring, fr__law_ring, p__law_ring, s__law_plane, fr__law_plane, p__law_plane, s__law_step, fr__law_step, p__law_step, s__law_spot, fr__law_spot, p__law_spot, s__law_is_spot, fr__law_is_spot, p__law_is_spot, s__law_is_base, fr__law_is_base, p__law_is_base, s_law, fr_law, p_law, v_7, v_9, v_10, v_11, v_13, v_14, v_16, sn_expr, sn_asg, sn_asgl, sn_unp, sn_par, sn_app, sn_seti, sn_tr, so_ifn])
local macro_rules
  | `(tactic| simp_all_arith [$ts,*]) => `(tactic| ((try (dsimp only)); (try (rw [wN_eq])); try simp only [st_for, st_nil, st_ret, st_retn, st_brk, st_cnt, st_rmal, e_int, e_bl, e_non, e_str, e_fnv, e_gint, e_bin, e_neg, e_cmp, e_isn, e_ntn, e_and, e_or, e_tup, e_lst, e_call, e_cio, e_clv, e_blt, e_isi, e_ix, e_slc, e_rev, e_lrng, e_lc, e_met, wA, wP, wT, kpN_sow, kpN_seq, kpN_rng, kpN_zip, kpN_enm, i_rng, i_seq, i_zip, i_enm, wCs, wHnd, at_, put, putAll, putCs, wTgt, rng_1, rng_2, zip_tt, zip_ll, enm_t, enm_l, cellOf, frE, frF, frB, isOwn, isOwnL, List.getElem?_cons_zero, List.getElem?_cons_succ, List.getElem?_nil, Option.getD_some, Option.getD_none, List.set_cons_zero, List.set_cons_succ, ne_eq, reduceCtorEq, not_false_eq_true, not_true_eq_false, true_and, and_true, if_true, if_false, ite_true, ite_false, Bool.false_eq_true, Bool.true_eq_false, Bool.true_and, Bool.and_true, Bool.false_and, Bool.and_false, Bool.not_true, Bool.not_false, false_implies, true_implies, forall_const, implies_true, bin_add, bin_sub, bin_mul, bin_fdiv, bin_mod, bin_adds, bin_addt, bin_addl, bin_mull, bin_mult, cmp_lt, cmp_le, cmp_gt, cmp_ge, cmp_eqi, cmp_nei, cmp_eqb, cmp_eqs, tru_bl, tru_int, tru_non, tru_tup, tru_lst, tru_frz, ix_tup, len_tup, tpl_tup, lsl_tup, slc_tup, seq_tup, ix_lst, len_lst, tpl_lst, lsl_lst, slc_lst, seq_lst, ix_frz, len_frz, tpl_frz, lsl_frz, slc_frz, seq_frz, len_str, blt_abs, blt_int, blt_intb, blt_max, blt_min, blt_str, blt_all, blt_any, blt_sum, opt_0, opt_1, atI_0, atI_1, atI_2, atI_3, atI_4, ixN_20, ixN_21, ty_bl_int, ty_bl_bool, ty_bl_str, ty_bl_tuple, ty_bl_list, ht_bl, nn_bl, mu_bl, ty_int_int, ty_int_bool, ty_int_str, ty_int_tuple, ty_int_list, ht_int, nn_int, mu_int, ty_str_int, ty_str_bool, ty_str_str, ty_str_tuple, ty_str_list, ht_str, nn_str, mu_str, ty_tup_int, ty_tup_bool, ty_tup_str, ty_tup_tuple, ty_tup_list, ht_tup, nn_tup, mu_tup, ty_lst_int, ty_lst_bool, ty_lst_str, ty_lst_tuple, ty_lst_list, ht_lst, nn_lst, mu_lst, ty_frz_int, ty_frz_bool, ty_frz_str, ty_frz_tuple, ty_frz_list, ht_frz, nn_frz, mu_frz, ty_non_int, ty_non_bool, ty_non_str, ty_non_tuple, ty_non_list, ht_non, nn_non, mu_non, List.map_cons, List.map_nil, exists_eq_left', decide_eq_true_eq, exists_eq_left, List.length_cons, List.length_nil, Nat.reduceAdd, Int.reduceEq, Int.reduceLT, Int.reduceLE, Int.reduceNeg, decide_true, decide_false, Cl.own.injEq, D.tup.injEq, List.mem_cons, List.not_mem_nil, or_false, forall_eq_or_imp, forall_eq, Option.some.injEq, strOk_digits, strOk_zero, strOk_told, strOk_refused, strOk_malformed, i_sow, sw_val, sw_own, br_t, br_f, br_not, br_dec, br_beq, beq_iff_eq, br_and, br_or, br_same, bb_bl, eo_ite, eo_chn, eo_not, and_1, and_2, or_1, or_2, ta_n, ta_c, to_n, to_c, cmp_in, cmp_nin, inok_i, inok_int, inok_str, inok_tup, any_ints, scl_int, scl_str, scl_bl, scl_non, sizeLine, Nat.reducePow, blt_maxl, blt_minl, Int.cast_ofNat_Int, st_rexc, rx_ref, rx_nt, cmp_tt, cmn_tt, cmp_ll, cmn_ll, okD_int, okD_bl, okD_non, okD_str, okD_tup, okD_lst, okDs_nil, okDs_cons, depD_int, depD_bl, depD_non, depD_str, depD_tup, depD_lst, depDs_nil, depDs_cons, eqok_ti, eqok_li, eqok_t, eqok_l, okDs_ints, depDs_ints, eq_int, eq_bl, eq_str, eq_non, eq_tup, eq_lst, eqs_nil, eqs_nc, eqs_cn, eqs_ints, eqs_cons, Nat.max_self, Nat.zero_max, Nat.max_zero, Nat.zero_add, Nat.le_refl, Nat.zero_le, pkv_val, pkv_own, evv_val, evv_own, rtv_val, rtv_own, rd_dat, rd_slot, dm_val, dm_own, ev_var, pk_var, rt_var, pk_int, rt_int, pk_bl, rt_bl, pk_non, rt_non, pk_str, rt_str, pk_fnv, rt_fnv, pk_gint, rt_gint, pk_bin, rt_bin, pk_neg, rt_neg, pk_not, rt_not, pk_cmp, rt_cmp, pk_chn, rt_chn, pk_isn, rt_isn, pk_ntn, rt_ntn, pk_and, rt_and, pk_or, rt_or, pk_ite, rt_ite, pk_tup, rt_tup, pk_lst, rt_lst, pk_call, rt_call, pk_cio, rt_cio, pk_clv, rt_clv, pk_blt, rt_blt, pk_isi, rt_isi, pk_ix, rt_ix, pk_slc, rt_slc, pk_rev, rt_rev, pk_lrng, rt_lrng, pk_lc, rt_lc, pk_met, rt_met, S0_eq, S1_eq, S2_eq, S3_eq, S4_eq, S5_eq, S6_eq, M.isint_eq, M.iscnt_eq, M.chkcnt_eq, M.isrow_eq, M.isword_eq, M.state_eq, M.take_eq, M.great_eq, M.says_eq, M.same_eq, M.told_eq, M.allmal_eq, M.badD_eq, M.toldX_mal, M.toldX_ref, M.isI_int, M.isI_bl, M.isI_non, M.isI_str, M.isI_tup, M.isI_lst, M.cnt_i, M.cnt_bl, M.cnt_non, M.cnt_str, M.cnt_tup, M.cnt_lst, M.says_bl, M.says_int, M.says_non, M.isRow_tup, M.isRow_ints, M.isRow_int, M.isRow_bl, M.isRow_non, M.isRow_str, M.isRow_lst, M.rowOk_int, M.rowOk_bl, M.rowOk_non, M.rowOk_str, M.rowOk_lst, M.rowOk_ints, M.rowOk_tup, M.isWord_ints, M.seen_int, M.seen_bl, M.seen_str, M.seen_non, M.seen_lst, M.seen_ints, M.seen_tup, M.due_int, M.due_bl, M.due_str, M.due_non, M.due_t1, M.due_t2, M.due_t3, M.due_t4, M.due_t5, M.due_t6, M.due_l2, M.due_l3, M.due_l4, M.due_l5, M.due_l6, M.same_int, M.same_bl, M.same_str, M.same_non, M.same_tup, M.same_tlst, M.sames_nil, M.sames_cons, List.all_cons, List.all_nil, em, List.replicate_succ, List.replicate_zero, and_self, imp_self, List.any_cons, List.any_nil, Bool.or_true, Bool.true_or, Bool.or_false, Bool.false_or, Bool.or_self, Bool.and_self, Int.reduceAdd, Int.reduceSub, Int.reduceMul, Nat.reduceLeDiff, Nat.reduceLT, Nat.reduceEqDiff, Int.reduceAbs, Int.reduceToNat, Int.toNat_natCast, s_is_integer, fr_is_integer, p_is_integer, s_is_whole_row, fr_is_whole_row, p_is_whole_row, s_is_ring, fr_is_ring, p_is_ring, s_is_spot, fr_is_spot, p_is_spot, s_check_spots, fr_check_spots, p_check_spots, s_spot_plus, fr_spot_plus, p_spot_plus, s_spot_less, fr_spot_less, p_spot_less, s_spot_times, fr_spot_times, p_spot_times, s_spot_product, fr_spot_product, p_spot_product, s_spot_norm, fr_spot_norm, p_spot_norm, s_spot_turned, fr_spot_turned, p_spot_turned, s_spot_over, fr_spot_over, p_spot_over, s_spot_quotient, fr_spot_quotient, p_spot_quotient, s_is_plane_base, fr_is_plane_base, p_is_plane_base, s_plain_digits, fr_plain_digits, p_plain_digits, s_plane_step, fr_plane_step, p_plane_step, s_is_gauss_base, fr_is_gauss_base, p_is_gauss_base, s__law_state, fr__law_state, p__law_state, s__law_take, fr__law_take, p__law_take, s__law_says, fr__law_says, p__law_says, s__law_is_whole, fr__law_is_whole, p__law_is_whole, s__law_same_v, fr__law_same_v, p__law_same_v, s__law_same_0, fr__law_same_0, p__law_same_0, s__law_same_1, fr__law_same_1, p__law_same_1, s__law_same_2, fr__law_same_2, p__law_same_2, s__law_same_3, fr__law_same_3, p__law_same_3, s__law_same_4, fr__law_same_4, p__law_same_4, s__law_told, fr__law_told, p__law_told, s__law_all_malformed, fr__law_all_malformed, p__law_all_malformed, s__law_product, fr__law_product, p__law_product, s__law_norm, fr__law_norm, p__law_norm, s__law_over_spot, fr__law_over_spot, p__law_over_spot, s__law_less, fr__law_less, p__law_less, s__law_ring, fr__law_ring, p__law_ring, s__law_plane, fr__law_plane, p__law_plane, s__law_step, fr__law_step, p__law_step, s__law_spot, fr__law_spot, p__law_spot, s__law_is_spot, fr__law_is_spot, p__law_is_spot, s__law_is_base, fr__law_is_base, p__law_is_base, s_law, fr_law, p_law, v_7, v_9, v_10, v_11, v_13, v_14, v_16, sn_expr, sn_asg, sn_asgl, sn_unp, sn_par, sn_app, sn_seti, sn_tr, so_ifn, $ts,*]))
  | `(tactic| simp_all_arith) => `(tactic| ((try (dsimp only)); (try (rw [wN_eq])); try simp only [st_for, st_nil, st_ret, st_retn, st_brk, st_cnt, st_rmal, e_int, e_bl, e_non, e_str, e_fnv, e_gint, e_bin, e_neg, e_cmp, e_isn, e_ntn, e_and, e_or, e_tup, e_lst, e_call, e_cio, e_clv, e_blt, e_isi, e_ix, e_slc, e_rev, e_lrng, e_lc, e_met, wA, wP, wT, kpN_sow, kpN_seq, kpN_rng, kpN_zip, kpN_enm, i_rng, i_seq, i_zip, i_enm, wCs, wHnd, at_, put, putAll, putCs, wTgt, rng_1, rng_2, zip_tt, zip_ll, enm_t, enm_l, cellOf, frE, frF, frB, isOwn, isOwnL, List.getElem?_cons_zero, List.getElem?_cons_succ, List.getElem?_nil, Option.getD_some, Option.getD_none, List.set_cons_zero, List.set_cons_succ, ne_eq, reduceCtorEq, not_false_eq_true, not_true_eq_false, true_and, and_true, if_true, if_false, ite_true, ite_false, Bool.false_eq_true, Bool.true_eq_false, Bool.true_and, Bool.and_true, Bool.false_and, Bool.and_false, Bool.not_true, Bool.not_false, false_implies, true_implies, forall_const, implies_true, bin_add, bin_sub, bin_mul, bin_fdiv, bin_mod, bin_adds, bin_addt, bin_addl, bin_mull, bin_mult, cmp_lt, cmp_le, cmp_gt, cmp_ge, cmp_eqi, cmp_nei, cmp_eqb, cmp_eqs, tru_bl, tru_int, tru_non, tru_tup, tru_lst, tru_frz, ix_tup, len_tup, tpl_tup, lsl_tup, slc_tup, seq_tup, ix_lst, len_lst, tpl_lst, lsl_lst, slc_lst, seq_lst, ix_frz, len_frz, tpl_frz, lsl_frz, slc_frz, seq_frz, len_str, blt_abs, blt_int, blt_intb, blt_max, blt_min, blt_str, blt_all, blt_any, blt_sum, opt_0, opt_1, atI_0, atI_1, atI_2, atI_3, atI_4, ixN_20, ixN_21, ty_bl_int, ty_bl_bool, ty_bl_str, ty_bl_tuple, ty_bl_list, ht_bl, nn_bl, mu_bl, ty_int_int, ty_int_bool, ty_int_str, ty_int_tuple, ty_int_list, ht_int, nn_int, mu_int, ty_str_int, ty_str_bool, ty_str_str, ty_str_tuple, ty_str_list, ht_str, nn_str, mu_str, ty_tup_int, ty_tup_bool, ty_tup_str, ty_tup_tuple, ty_tup_list, ht_tup, nn_tup, mu_tup, ty_lst_int, ty_lst_bool, ty_lst_str, ty_lst_tuple, ty_lst_list, ht_lst, nn_lst, mu_lst, ty_frz_int, ty_frz_bool, ty_frz_str, ty_frz_tuple, ty_frz_list, ht_frz, nn_frz, mu_frz, ty_non_int, ty_non_bool, ty_non_str, ty_non_tuple, ty_non_list, ht_non, nn_non, mu_non, List.map_cons, List.map_nil, exists_eq_left', decide_eq_true_eq, exists_eq_left, List.length_cons, List.length_nil, Nat.reduceAdd, Int.reduceEq, Int.reduceLT, Int.reduceLE, Int.reduceNeg, decide_true, decide_false, Cl.own.injEq, D.tup.injEq, List.mem_cons, List.not_mem_nil, or_false, forall_eq_or_imp, forall_eq, Option.some.injEq, strOk_digits, strOk_zero, strOk_told, strOk_refused, strOk_malformed, i_sow, sw_val, sw_own, br_t, br_f, br_not, br_dec, br_beq, beq_iff_eq, br_and, br_or, br_same, bb_bl, eo_ite, eo_chn, eo_not, and_1, and_2, or_1, or_2, ta_n, ta_c, to_n, to_c, cmp_in, cmp_nin, inok_i, inok_int, inok_str, inok_tup, any_ints, scl_int, scl_str, scl_bl, scl_non, sizeLine, Nat.reducePow, blt_maxl, blt_minl, Int.cast_ofNat_Int, st_rexc, rx_ref, rx_nt, cmp_tt, cmn_tt, cmp_ll, cmn_ll, okD_int, okD_bl, okD_non, okD_str, okD_tup, okD_lst, okDs_nil, okDs_cons, depD_int, depD_bl, depD_non, depD_str, depD_tup, depD_lst, depDs_nil, depDs_cons, eqok_ti, eqok_li, eqok_t, eqok_l, okDs_ints, depDs_ints, eq_int, eq_bl, eq_str, eq_non, eq_tup, eq_lst, eqs_nil, eqs_nc, eqs_cn, eqs_ints, eqs_cons, Nat.max_self, Nat.zero_max, Nat.max_zero, Nat.zero_add, Nat.le_refl, Nat.zero_le, pkv_val, pkv_own, evv_val, evv_own, rtv_val, rtv_own, rd_dat, rd_slot, dm_val, dm_own, ev_var, pk_var, rt_var, pk_int, rt_int, pk_bl, rt_bl, pk_non, rt_non, pk_str, rt_str, pk_fnv, rt_fnv, pk_gint, rt_gint, pk_bin, rt_bin, pk_neg, rt_neg, pk_not, rt_not, pk_cmp, rt_cmp, pk_chn, rt_chn, pk_isn, rt_isn, pk_ntn, rt_ntn, pk_and, rt_and, pk_or, rt_or, pk_ite, rt_ite, pk_tup, rt_tup, pk_lst, rt_lst, pk_call, rt_call, pk_cio, rt_cio, pk_clv, rt_clv, pk_blt, rt_blt, pk_isi, rt_isi, pk_ix, rt_ix, pk_slc, rt_slc, pk_rev, rt_rev, pk_lrng, rt_lrng, pk_lc, rt_lc, pk_met, rt_met, S0_eq, S1_eq, S2_eq, S3_eq, S4_eq, S5_eq, S6_eq, M.isint_eq, M.iscnt_eq, M.chkcnt_eq, M.isrow_eq, M.isword_eq, M.state_eq, M.take_eq, M.great_eq, M.says_eq, M.same_eq, M.told_eq, M.allmal_eq, M.badD_eq, M.toldX_mal, M.toldX_ref, M.isI_int, M.isI_bl, M.isI_non, M.isI_str, M.isI_tup, M.isI_lst, M.cnt_i, M.cnt_bl, M.cnt_non, M.cnt_str, M.cnt_tup, M.cnt_lst, M.says_bl, M.says_int, M.says_non, M.isRow_tup, M.isRow_ints, M.isRow_int, M.isRow_bl, M.isRow_non, M.isRow_str, M.isRow_lst, M.rowOk_int, M.rowOk_bl, M.rowOk_non, M.rowOk_str, M.rowOk_lst, M.rowOk_ints, M.rowOk_tup, M.isWord_ints, M.seen_int, M.seen_bl, M.seen_str, M.seen_non, M.seen_lst, M.seen_ints, M.seen_tup, M.due_int, M.due_bl, M.due_str, M.due_non, M.due_t1, M.due_t2, M.due_t3, M.due_t4, M.due_t5, M.due_t6, M.due_l2, M.due_l3, M.due_l4, M.due_l5, M.due_l6, M.same_int, M.same_bl, M.same_str, M.same_non, M.same_tup, M.same_tlst, M.sames_nil, M.sames_cons, List.all_cons, List.all_nil, em, List.replicate_succ, List.replicate_zero, and_self, imp_self, List.any_cons, List.any_nil, Bool.or_true, Bool.true_or, Bool.or_false, Bool.false_or, Bool.or_self, Bool.and_self, Int.reduceAdd, Int.reduceSub, Int.reduceMul, Nat.reduceLeDiff, Nat.reduceLT, Nat.reduceEqDiff, Int.reduceAbs, Int.reduceToNat, Int.toNat_natCast, s_is_integer, fr_is_integer, p_is_integer, s_is_whole_row, fr_is_whole_row, p_is_whole_row, s_is_ring, fr_is_ring, p_is_ring, s_is_spot, fr_is_spot, p_is_spot, s_check_spots, fr_check_spots, p_check_spots, s_spot_plus, fr_spot_plus, p_spot_plus, s_spot_less, fr_spot_less, p_spot_less, s_spot_times, fr_spot_times, p_spot_times, s_spot_product, fr_spot_product, p_spot_product, s_spot_norm, fr_spot_norm, p_spot_norm, s_spot_turned, fr_spot_turned, p_spot_turned, s_spot_over, fr_spot_over, p_spot_over, s_spot_quotient, fr_spot_quotient, p_spot_quotient, s_is_plane_base, fr_is_plane_base, p_is_plane_base, s_plain_digits, fr_plain_digits, p_plain_digits, s_plane_step, fr_plane_step, p_plane_step, s_is_gauss_base, fr_is_gauss_base, p_is_gauss_base, s__law_state, fr__law_state, p__law_state, s__law_take, fr__law_take, p__law_take, s__law_says, fr__law_says, p__law_says, s__law_is_whole, fr__law_is_whole, p__law_is_whole, s__law_same_v, fr__law_same_v, p__law_same_v, s__law_same_0, fr__law_same_0, p__law_same_0, s__law_same_1, fr__law_same_1, p__law_same_1, s__law_same_2, fr__law_same_2, p__law_same_2, s__law_same_3, fr__law_same_3, p__law_same_3, s__law_same_4, fr__law_same_4, p__law_same_4, s__law_told, fr__law_told, p__law_told, s__law_all_malformed, fr__law_all_malformed, p__law_all_malformed, s__law_product, fr__law_product, p__law_product, s__law_norm, fr__law_norm, p__law_norm, s__law_over_spot, fr__law_over_spot, p__law_over_spot, s__law_less, fr__law_less, p__law_less, s__law_ring, fr__law_ring, p__law_ring, s__law_plane, fr__law_plane, p__law_plane, s__law_step, fr__law_step, p__law_step, s__law_spot, fr__law_spot, p__law_spot, s__law_is_spot, fr__law_is_spot, p__law_is_spot, s__law_is_base, fr__law_is_base, p__law_is_base, s_law, fr_law, p_law, v_7, v_9, v_10, v_11, v_13, v_14, v_16, sn_expr, sn_asg, sn_asgl, sn_unp, sn_par, sn_app, sn_seti, sn_tr, so_ifn]))
local macro_rules
  | `(tactic| ac_nf0) => `(tactic| ((repeat' (with_reducible refine And.intro ?_ ?_)) <;> first | omega | exact mulL (by omega) (by omega) | exact mulR (by omega) (by omega) | exact divOk (by omega) (by omega) | (with_reducible rfl) | assumption | (unfold sizeLine; omega) | (simp only [sizeLine, List.length_cons, List.length_nil, List.length_map, List.length_append]; omega) | skip))
set_option hygiene false in
local macro_rules
  | `(tactic| simp_all_arith!) => `(tactic| repeat' first | exact h1 _ _ | exact h2 _ | exact id | exact False.elim | refine And.imp ?_ ?_ | refine ite_mono ?_ ?_ | refine br_mono ?_ ?_ | (refine all_mono ?_; intro _) | (refine ex_mono ?_; intro _) | split)
theorem g_spot_plus : Good tx.T tx.ek f_spot_plus := G_spot_plus fun a b P X h => by
  unfold sp_spot_plus two at h
  split at h
  · unfold b_spot_plus
    simp_arith
    exact h
  · exact h.elim
theorem g_spot_less : Good tx.T tx.ek f_spot_less := G_spot_less fun a b P X h => by
  unfold sp_spot_less two at h
  split at h
  · unfold b_spot_less
    simp_arith
    exact h
  · exact h.elim
theorem mB {i j : Int} (h : big j) : MulOk i j := mulR h.1 h.2
theorem mA {i j : Int} (h : big i) : MulOk i j := mulL h.1 h.2
theorem g_spot_product : Good tx.T tx.ek f_spot_product := G_spot_product fun r z w P X h => by
  unfold sp_spot_product at h
  split at h
  · obtain ⟨ht, hn, h1, h2, hp⟩ := h
    unfold b_spot_product
    simp_arith
    exact ⟨mB h1, mA hn, mB h2, mB h2, mB h1, mA ht, mB h2, hp⟩
  · exact h.elim
theorem max_le {a b m : Int} : decide ((if b > a then b else a) ≤ m) = (decide (a ≤ m) && decide (b ≤ m)) := by grind
theorem abB {i : Int} (h : ab i ≤ 1000000000000) : -1000000000000 ≤ i ∧ i ≤ 1000000000000 := by unfold ab at h; grind
theorem g_is_ring : Good tx.T tx.ek f_is_ring := G_is_ring fun t n P X h => by
  obtain ⟨ht, hn, hp⟩ := h
  unfold b_is_ring
  simp_arith
  refine ⟨by simp [ht, hn], ?_⟩
  cases t with
  | int t =>
    cases n with
    | int n =>
      simp_arith
      have e : isRing (.int t) (.int n) = (decide (ab t ≤ 20) && decide (ab n ≤ 20) && decide (t * t < 4 * n)) := rfl
      rw [e] at hp
      refine ⟨fun q => ?_, fun q => ?_⟩
      · have q1 : ab t ≤ 20 ∧ ab n ≤ 20 := by unfold ab; grind
        have : t < 100 ∧ -100 < t := by unfold ab at q1; grind
        simp only [q1, decide_true, Bool.true_and] at hp
        exact ⟨mulL (by omega) (by omega), mulL (by omega) (by omega), hp⟩
      · have q1 : ¬ (ab t ≤ 20 ∧ ab n ≤ 20) := by unfold ab; grind
        have : (decide (ab t ≤ 20) && decide (ab n ≤ 20)) = false := by simpa using q1
        rw [this] at hp
        exact hp
    | _ => simpa [M.isI, isRing, br] using hp
  | _ => simpa [M.isI, isRing, br] using hp
theorem int_of {d : D} (h : M.isI d = true) : ∃ i, d = .int i := by
  cases d <;> first | exact ⟨_, rfl⟩ | cases h
theorem row_of2 {d : D} (h : M.isRow d = true) {k : Nat} : ∃ ns : List Int, d = .tup (ns.map D.int) := by
  cases d with
  | tup xs =>
    obtain ⟨ns, h, _⟩ := M.ints_all (xs := xs) h
    exact ⟨ns, by rw [h]⟩
  | _ => cases h
theorem g_is_spot : Good tx.T tx.ek f_is_spot := G_is_spot fun d P X h => by
  obtain ⟨hd, hp⟩ := h
  unfold b_is_spot
  simp_arith
  refine ⟨hd, ?_⟩
  cases hr : M.isRow d with
  | false =>
    have : isSpot d = false := by
      unfold isSpot
      split
      · simp [M.isRow, M.isI] at hr
      · rfl
    rw [this] at hp
    exact hp
  | true =>
    obtain ⟨ns, rfl⟩ := row_of2 hr (k := 0)
    match ns with
    | [a, b] =>
      simp_arith
      simp only [max_le]
      exact hp
    | [] => simp_arith; exact hp
    | [_] => simp_arith; exact hp
    | _ :: _ :: _ :: _ =>
      simp_arith
      exact ⟨fun h => absurd h (by omega), fun _ => hp⟩
/-- what a pair is -/
theorem spot_of {d : D} (h : isSpot d = true) : ∃ a b, d = .tup [.int a, .int b] ∧ within most (a, b) = true := by
  unfold isSpot at h
  split at h
  · exact ⟨_, _, rfl, h⟩
  · cases h
theorem ring_of {d : D} (h : ringD d = true) : ∃ a b, d = .tup [.int a, .int b] ∧ ringN (a, b) = true := by
  unfold ringD at h
  split at h
  · unfold isRing at h
    split at h
    · exact ⟨_, _, rfl, h⟩
    · cases h
  · cases h
theorem chk_1 {r z : D} (h : chkS r [z] = true) : ringD r = true ∧ isSpot z = true := by simpa [chkS] using h
theorem chk_2 {r z w : D} (h : chkS r [z, w] = true) : ringD r = true ∧ isSpot z = true ∧ isSpot w = true := by simpa [chkS] using h
theorem rg {a b : Int} (h : ringN (a, b) = true) : (-20 ≤ a ∧ a ≤ 20) ∧ (-20 ≤ b ∧ b ≤ 20) ∧ a * a < 4 * b := by
  unfold ringN ab at h
  simp only [Bool.and_eq_true, decide_eq_true_eq] at h
  refine ⟨⟨by grind, by grind⟩, ⟨by grind, by grind⟩, h.2⟩
theorem wi {m a b : Int} (h : within m (a, b) = true) : (-m ≤ a ∧ a ≤ m) ∧ (-m ≤ b ∧ b ≤ m) := by
  unfold within ab at h
  simp only [Bool.and_eq_true, decide_eq_true_eq] at h
  grind
theorem ab_le {a m : Int} : ab a ≤ m ↔ -m ≤ a ∧ a ≤ m := by
  unfold ab
  split <;> omega
theorem iw {m a b : Int} (h1 : -m ≤ a) (h2 : a ≤ m) (h3 : -m ≤ b) (h4 : b ≤ m) : within m (a, b) = true := by
  unfold within
  simp only [Bool.and_eq_true, decide_eq_true_eq, ab_le]
  exact ⟨⟨h1, h2⟩, h3, h4⟩
theorem wb {a b : Int} (h : within most (a, b) = true) : big a ∧ big b := by
  have := wi h
  unfold most at this
  unfold big
  omega
theorem rb {a b : Int} (h : ringN (a, b) = true) : big a ∧ big b := by
  have := rg h
  unfold big
  omega
theorem g_check_spots : Good tx.T tx.ek f_check_spots := G_check_spots fun r zs P X h => by
  unfold sp_check_spots at h
  split at h
  · rename_i zs
    obtain ⟨hr, hl, hz, hp⟩ := h
    unfold b_check_spots
    simp_arith
    refine ⟨hr, ?_⟩
    have bad : ringD r = false → X .mal := fun h => by simpa [chkS, h, br] using hp
    have lcs : ∀ (env : Loca), env = [Cl.val r, .val (.tup zs), .emp] → ringD r = true → lcS (gxOf tx.T tx.ek f_check_spots) [2] false (E.seq (E.var 1)) E.nil (E.call 3 ((E.var 2).cons E.nil)) zs env fun d env' => wBlt BF.all [d] fun d => wTru d fun b => br b (P D.non D.non) (X Exn.mal) := fun env he hr => by
      subst he
      refine lcS_map (fun z => .bl (isSpot z)) (by show 2 < 3; decide) hl (fun d hd k hk => ?_) ?_
      · simp_arith[sp_is_spot]
        exact ⟨hz d hd, hk⟩
      · simp_arith
        refine ⟨_, M.bls_map _, ?_⟩
        simp_arith[M.all_map]
        unfold chkS at hp
        rw [hr, Bool.true_and] at hp
        cases h : zs.all isSpot <;> simpa [h, br] using hp
    cases hrow : M.isRow r with
    | false =>
      refine bad ?_
      cases h : ringD r with
      | false => rfl
      | true =>
        obtain ⟨a, b, rfl, _⟩ := ring_of h
        simp [M.isRow, M.isI] at hrow
    | true =>
      obtain ⟨ns, rfl⟩ := row_of2 hrow (k := 0)
      match ns with
      | [a, b] =>
        simp_arith[sp_is_ring, isRing]
        by_cases h : ringN (a, b) = true
        · exact brT h (lcs _ rfl (by simp [ringD, isRing, h]))
        · exact brF (by simpa using h) (bad (by simpa [ringD, isRing] using h))
      | [] => simp_arith; exact bad rfl
      | [_] => simp_arith; exact bad rfl
      | _ :: _ :: _ :: _ =>
        simp_arith
        exact ⟨fun h => absurd h (by omega), fun _ => bad rfl⟩
  · exact h.elim
theorem g_spot_times : Good tx.T tx.ek f_spot_times := G_spot_times fun r z w P X h => by
  obtain ⟨hr, hz, hw, hp⟩ := h
  unfold b_spot_times
  simp_arith[sp_check_spots]
  refine ⟨hr, ⟨hz, hw⟩, ?_⟩
  refine br2 (fun hc => ?_) (fun hc => by rw [hc] at hp; exact hp)
  rw [hc, br_t] at hp
  obtain ⟨h1, h2, h3⟩ := chk_2 hc
  obtain ⟨t, n, rfl, gr⟩ := ring_of h1
  obtain ⟨a, b, rfl, gz⟩ := spot_of h2
  obtain ⟨c, d, rfl, gw⟩ := spot_of h3
  exact ⟨(rb gr).1, (rb gr).2, (wb gw).1, (wb gw).2, hp⟩
theorem g_spot_norm : Good tx.T tx.ek f_spot_norm := G_spot_norm fun r z P X h => by
  obtain ⟨hr, hz, hp⟩ := h
  unfold b_spot_norm
  simp_arith![sp_check_spots]
  refine ⟨hr, hz, ?_⟩
  refine br2 (fun hc => ?_) (fun hc => by rw [hc] at hp; exact hp)
  rw [hc, br_t] at hp
  obtain ⟨h1, h2⟩ := chk_1 hc
  obtain ⟨t, n, rfl, gr⟩ := ring_of h1
  obtain ⟨a, b, rfl, gz⟩ := spot_of h2
  obtain ⟨r1, r2⟩ := rb gr
  obtain ⟨z1, z2⟩ := wb gz
  rw [wN_eq]
  simp_arith
  exact ⟨mB z1, mA r1, mB z2, mA r2, mB z2, hp⟩
theorem g_spot_turned : Good tx.T tx.ek f_spot_turned := G_spot_turned fun r z P X h => by
  obtain ⟨hr, hz, hp⟩ := h
  unfold b_spot_turned
  simp_arith![sp_check_spots]
  refine ⟨hr, hz, ?_⟩
  refine br2 (fun hc => ?_) (fun hc => by rw [hc] at hp; exact hp)
  rw [hc, br_t] at hp
  obtain ⟨h1, h2⟩ := chk_1 hc
  obtain ⟨t, n, rfl, gr⟩ := ring_of h1
  obtain ⟨a, b, rfl, gz⟩ := spot_of h2
  rw [wN_eq]
  simp_arith
  exact ⟨mB (wb gz).2, hp⟩
/-- 4 n N = (2 n v + t u)^2 + (4 n - t t) u u -/
theorem norm_pos {t n a b : Int} (h : ringN (t, n) = true) (hz : ¬ (a = 0 ∧ b = 0)) : 0 < norm (t, n) (a, b) := by
  obtain ⟨_, hn, hd⟩ := rg h
  unfold norm
  dsimp only
  have sq : ∀ x : Int, 0 ≤ x * x := fun x => by
    rcases Int.le_total 0 x with h | h
    · exact Int.mul_nonneg h h
    · exact Int.mul_nonneg_of_nonpos_of_nonpos h h
  have h0 := sq t
  have h1 := sq (2 * n * b + t * a)
  have h2 := sq a
  have h4 : 0 ≤ (4 * n - t * t - 1) * (a * a) := Int.mul_nonneg (by omega) h2
  have e : 4 * n * (a * a + t * a * b + n * b * b) = (2 * n * b + t * a) * (2 * n * b + t * a) + (4 * n - t * t - 1) * (a * a) + a * a := by grind
  have n0 : 0 < n := by omega
  rcases Int.lt_trichotomy 0 (a * a + t * a * b + n * b * b) with hq | hq | hq
  · exact hq
  · exfalso
    rw [← hq, Int.mul_zero] at e
    have a0 : a = 0 := by
      have : a * a = 0 := by omega
      exact (Int.mul_eq_zero.mp this).elim id id
    subst a0
    have : (2 * n * b + t * 0) * (2 * n * b + t * 0) = 0 := by omega
    have : 2 * n * b + t * 0 = 0 := (Int.mul_eq_zero.mp this).elim id id
    have : n * b = 0 := by grind
    have : b = 0 := by
      rcases Int.mul_eq_zero.mp this with h | h
      · omega
      · exact h
    exact hz ⟨rfl, this⟩
  · exfalso
    have : 4 * n * (a * a + t * a * b + n * b * b) < 0 := Int.mul_neg_of_pos_of_neg (by omega) hq
    omega
theorem norm_lt {t n a b : Int} (h : ringN (t, n) = true) (hw : within most (a, b) = true) : norm (t, n) (a, b) < 100000000000000000000000000000 := by
  obtain ⟨h1, h2, _⟩ := rg h
  have h3 := wi hw
  unfold most at h3
  unfold norm
  dsimp only
  have m : ∀ {x y X Y : Int}, -X ≤ x → x ≤ X → -Y ≤ y → y ≤ Y → -(X * Y) ≤ x * y ∧ x * y ≤ X * Y := fun {x y X Y} a1 a2 b1 b2 => by
    have e1 : 0 ≤ (X - x) * (Y + y) := Int.mul_nonneg (by omega) (by omega)
    have e2 : 0 ≤ (X + x) * (Y - y) := Int.mul_nonneg (by omega) (by omega)
    have e3 : 0 ≤ (X - x) * (Y - y) := Int.mul_nonneg (by omega) (by omega)
    have e4 : 0 ≤ (X + x) * (Y + y) := Int.mul_nonneg (by omega) (by omega)
    constructor <;> grind
  have k1 := m h3.1.1 h3.1.2 h3.1.1 h3.1.2
  have k2 := m h1.1 h1.2 h3.1.1 h3.1.2
  have k3 := m k2.1 k2.2 h3.2.1 h3.2.2
  have k4 := m h2.1 h2.2 h3.2.1 h3.2.2
  have k5 := m k4.1 k4.2 h3.2.1 h3.2.2
  omega
theorem divB {t n a b i : Int} (h : ringN (t, n) = true) (hw : within most (a, b) = true) (hz : ¬ (a = 0 ∧ b = 0)) : DivOk i (norm (t, n) (a, b)) := by
  refine divOkW (norm_pos h hz) ?_
  have := norm_lt h hw
  have h0 := norm_pos h hz
  have : (norm (t, n) (a, b)).natAbs < 2 ^ 9000 := by
    have : (norm (t, n) (a, b)).natAbs < 2 ^ 100 := by omega
    exact Nat.lt_of_lt_of_le this (Nat.pow_le_pow_right (by decide) (by decide))
  exact (Nat.log2_lt (by omega)).mpr this
theorem bigC {t n c d : Int} (h1 : ringN (t, n) = true) (h2 : within most (c, d) = true) : big (c + t * d) ∧ big (-d) := by
  have w1 := wi h2
  have w2 := rg h1
  unfold most at w1
  have : -(20 * 1000000000000) ≤ t * d ∧ t * d ≤ 20 * 1000000000000 := by
    have e1 : 0 ≤ (20 - t) * (1000000000000 + d) := Int.mul_nonneg (by omega) (by omega)
    have e2 : 0 ≤ (20 + t) * (1000000000000 - d) := Int.mul_nonneg (by omega) (by omega)
    have e3 : 0 ≤ (20 - t) * (1000000000000 - d) := Int.mul_nonneg (by omega) (by omega)
    have e4 : 0 ≤ (20 + t) * (1000000000000 + d) := Int.mul_nonneg (by omega) (by omega)
    constructor <;> grind
  unfold big
  omega
theorem g_spot_quotient : Good tx.T tx.ek f_spot_quotient := G_spot_quotient fun r z w P X h => by
  unfold sp_spot_quotient at h
  split at h
  · rename_i t n a b c d
    obtain ⟨h1, h2, h3, hp⟩ := h
    obtain ⟨r1, r2⟩ := rb h1
    obtain ⟨z1, z2⟩ := wb h2
    have hn := norm_pos h1 h3
    unfold b_spot_quotient
    simp_arith[sp_spot_product]
    have dv := fun i => divB (i := i) h1 h2 h3
    have nz : norm (t, n) (c, d) ≠ 0 := by omega
    have bg := bigC h1 h2
    unfold quot at hp
    change P (optD (if (prod (t, n) (a, b) (c + t * d, -d)).1.fmod (norm (t, n) (c, d)) ≠ 0 ∨ (prod (t, n) (a, b) (c + t * d, -d)).2.fmod (norm (t, n) (c, d)) ≠ 0 then none else some ((prod (t, n) (a, b) (c + t * d, -d)).1.fdiv (norm (t, n) (c, d)), (prod (t, n) (a, b) (c + t * d, -d)).2.fdiv (norm (t, n) (c, d))))) .non at hp
    refine ⟨mB z1, mA r1, mB z2, mA r2, mB z2, mA r1, r1, r2, bg.1, bg.2, nz, ?_⟩
    refine ⟨fun q => ⟨nz, fun q2 => ⟨dv _, dv _, ?_⟩, fun q2 => ?_⟩, fun q => ?_⟩
    · rw [if_neg (by
        rintro (q3 | q3)
        · exact q3 q
        · exact q3 q2)] at hp
      exact hp
    · rw [if_pos (.inr q2)] at hp
      exact hp
    · rw [if_pos (.inl q)] at hp
      exact hp
  · exact h.elim
theorem g_spot_over : Good tx.T tx.ek f_spot_over := G_spot_over fun r z w P X h => by
  obtain ⟨hr, hz, hw, hp⟩ := h
  unfold b_spot_over
  simp_arith![sp_check_spots]
  refine ⟨hr, ⟨hz, hw⟩, ?_⟩
  refine br2 (fun hc => ?_) (fun hc => by rw [hc] at hp; exact hp)
  rw [hc, br_t] at hp
  obtain ⟨h1, h2, h3⟩ := chk_2 hc
  obtain ⟨t, n, rfl, gr⟩ := ring_of h1
  obtain ⟨a, b, rfl, gz⟩ := spot_of h2
  obtain ⟨c, d, rfl, gw⟩ := spot_of h3
  rw [wN_eq]
  simp_arith[sp_spot_quotient]
  simp only [ptD_eq, br_dec, Prod.mk.injEq] at hp
  exact ⟨hp.1, fun q => ⟨gr, gw, q, hp.2 q⟩⟩
theorem okDs_pts : ∀ zs : List Pt, okDs (zs.map pt) = true
  | [] => rfl
  | z :: zs => okDs_pts zs
theorem any_pts {u v : Int} : ∀ zs : List Pt, ((zs.map pt).any fun y => eqD y (.tup [.int u, .int v])) = zs.contains (u, v)
  | [] => rfl
  | z :: zs => by
    rw [List.map_cons, List.any_cons, any_pts zs, List.contains_cons]
    congr 1
    show (z.1 == u && (z.2 == v && true)) = _
    rw [Bool.eq_iff_iff]
    simp only [Bool.and_eq_true, beq_iff_eq, and_true, Prod.ext_iff]
    constructor <;> rintro ⟨h1, h2⟩ <;> exact ⟨h1.symm, h2.symm⟩
/-- the digits -/
theorem spots_of : ∀ {xs : List D}, xs.all isSpot = true → ∃ zs : List Pt, xs = zs.map pt ∧ zs.all (within most) = true ∧ xs.map ptD = zs
  | [], _ => ⟨[], rfl, rfl, rfl⟩
  | x :: xs, h => by
    simp only [List.all_cons, Bool.and_eq_true] at h
    obtain ⟨a, b, rfl, h1⟩ := spot_of h.1
    obtain ⟨zs, rfl, h2, h3⟩ := spots_of h.2
    exact ⟨(a, b) :: zs, rfl, by simp [h1, h2], by simp only [List.map_cons, h3]; rfl⟩
theorem g_is_plane_base : Good tx.T tx.ek f_is_plane_base := G_is_plane_base fun r b d P X h => by
  obtain ⟨hr, hb, hd, hp⟩ := h
  unfold b_is_plane_base
  simp_arith![sp_check_spots]
  have e0 : chkS r [] = ringD r := by simp [chkS]
  rw [e0]
  refine ⟨hr, br2 (fun hc => ?_) (fun hc => by rw [hc] at hp; exact hp)⟩
  rw [hc, br_t] at hp
  obtain ⟨t, n, rfl, gr⟩ := ring_of hc
  simp_all_arith
  simp_arith![sp_is_spot]
  refine ⟨hb, ?_⟩
  cases hs : isSpot b with
  | false =>
    have : baseB (t, n) b d = false := by simp [baseB, hs]
    change P (.bl (baseB (t, n) b d)) _ at hp
    rw [this] at hp
    exact hp
  | true =>
  obtain ⟨u, v, rfl, gb⟩ := spot_of hs
  change P (.bl (baseB (t, n) (.tup [.int u, .int v]) d)) _ at hp
  simp only [baseB, hs, Bool.true_and] at hp
  simp_arith
  refine ⟨hd.1, ?_⟩
  cases d with
  | tup xs =>
    obtain ⟨hl, hx⟩ := hd.2 _ rfl
    simp_arith
    refine lcS_map (fun z => .bl (isSpot z)) (by show 3 < 7; decide) (by unfold sizeLine; omega) (fun d hd k hk => ?_) ?_
    · simp_arith[sp_is_spot]
      exact ⟨hx d hd, hk⟩
    simp_arith
    refine ⟨_, M.bls_map _, ?_⟩
    simp_arith[M.all_map]
    cases ha : xs.all isSpot with
    | false => simpa [ha, br] using hp
    | true =>
    obtain ⟨zs, rfl, hz, hzs⟩ := spots_of ha
    simp only [ha, Bool.true_and, hzs] at hp
    have hl' : zs.length ≤ 1000 := by simpa using hl
    rw [wN_eq]
    simp_arith!
    refine ⟨by simp [sizeLine]; omega, ?_⟩
    rw [show zs.map pt ++ [D.tup [.int u, .int v]] = (zs ++ [(u, v)]).map pt by simp]
    refine lcS_of pt (fun z => .int (if ab z.2 > ab z.1 then ab z.2 else ab z.1)) (by show 3 < 7; decide) (by simp [sizeLine]; omega) (fun d hd k hk => ?_) ?_
    · simp_arith
      exact hk
    simp_arith!
    refine ⟨_, M.ints_mapf _, by simp, fun m hm1 hm2 => ?_⟩
    simp only [ptD_eq] at hp
    have h100 : 100 < m ↔ (within 100 (u, v) && zs.all (within 100)) = false := by
      simp only [List.mem_map, List.mem_append, List.mem_singleton] at hm1 hm2
      constructor
      · intro h
        obtain ⟨z, hz, e⟩ := hm1
        have hw : within 100 z = false := by unfold within; grind
        rcases hz with hz | rfl
        · rw [Bool.and_eq_false_iff]
          refine .inr ?_
          rw [List.all_eq_false]
          exact ⟨z, hz, by simp [hw]⟩
        · rw [hw]; rfl
      · intro h
        rcases Bool.and_eq_false_iff.mp h with h | h
        · have := hm2 _ ⟨(u, v), .inr rfl, rfl⟩
          unfold within at h
          grind
        · rw [List.all_eq_false] at h
          obtain ⟨z, hz, h⟩ := h
          have := hm2 _ ⟨z, .inl hz, rfl⟩
          unfold within at h
          grind
    refine ⟨fun q => ?_, fun q => ?_⟩
    · have : baseP (t, n) (u, v) zs = false := by unfold baseP; rw [h100.mp q]; rfl
      rw [this] at hp
      exact hp
    have w100 : (within 100 (u, v) && zs.all (within 100)) = true := by
      cases e : (within 100 (u, v) && zs.all (within 100)) with
      | true => rfl
      | false => exact absurd (h100.mpr e) q
    unfold baseP at hp
    rw [w100, Bool.true_and] at hp
    simp_all_arith
    simp_arith![sp_spot_norm]
    have hck : chkS (D.tup [.int t, .int n]) [D.tup [.int u, .int v]] = true := by simp [chkS, hc, hs]
    rw [hck, br_t]
    simp only [ptD_eq]
    rw [wN_eq]
    simp_arith!
    refine ⟨fun q2 => ⟨fun q3 => ⟨fun q4 => ⟨okDs_pts zs, br2 (fun q5 => ?_) fun q5 => ?b⟩, fun q4 => ?c⟩, fun q3 => ?d⟩, fun q2 => ?e⟩
    · have q5' : zs.contains (0, 0) = true := by
        rw [any_pts] at q5
        simpa using q5
      rw [List.length_map] at q4
      simp only [show norm (t, n) (u, v) ≤ 60 by simpa using q3, show (zs.length : Int) = norm (t, n) (u, v) by simpa using q4, q2, q5', decide_true, Bool.true_and] at hp
      rw [wN_eq]
      simp_arith!
      refine forS_rule (fun k env => (∀ i < k, ((zs.take i).all fun w => (quot (t, n) (less (zs.getD i (0, 0)) w) (u, v)).isNone) = true) ∧ ∃ c1 c2, env = [Cl.val (D.tup [D.int t, D.int n]), Cl.val (D.tup [D.int u, D.int v]), Cl.val (D.tup (List.map pt zs)), c1, Cl.val (D.int (norm (t, n) (u, v))), c2, Cl.emp]) ⟨fun i h => absurd h (Nat.not_lt_zero _), _, _, rfl⟩ ?_ ?_
      · rintro k d env nx hd ⟨hI, c1, c2, rfl⟩ hn
        obtain ⟨x, hx, rfl⟩ := enmT_at hd
        rw [List.getElem?_map] at hx
        cases hz' : zs[k]? with
        | none => rw [hz'] at hx; cases hx
        | some z =>
        rw [hz'] at hx
        cases hx
        have hk := (List.getElem?_eq_some_iff.mp hz').1
        simp_arith!
        rw [cut_to (by omega), ← List.map_take]
        try refine ⟨fun d e => by cases e, ?_⟩
        refine lcS_of pt (fun w => .bl (!(quot (t, n) (less z w) (u, v)).isNone)) (by show 6 < 7; decide) (by rw [List.length_take]; unfold sizeLine; omega) (fun w hw k hk => ?_) ?_
        · simp_arith[sp_spot_less, two, sp_spot_quotient]
          refine ⟨gr, gb, fun ⟨e1, e2⟩ => ?_, ?_⟩
          · subst e1 e2
            unfold norm at q2
            simp at q2
          · cases hq : quot (t, n) (less (z.1, z.2) (w.1, w.2)) (u, v) with
            | none =>
              simp only [hq] at hk
              exact hk
            | some q =>
              simp only [hq] at hk
              exact hk
        simp_arith!
        refine ⟨_, M.bls_mapf _, ?_⟩
        rw [M.any_id]
        have hget : zs.getD k (0, 0) = z := by rw [List.getD_eq_getElem?_getD, hz']; rfl
        refine br2 (fun qa => ?_) (fun qa => ?_)
        · have hu : unlike (t, n) (u, v) zs = false := by
            unfold unlike
            rw [List.all_eq_false]
            refine ⟨k, List.mem_range.mpr hk, ?_⟩
            rw [hget]
            intro hall
            rw [List.any_eq_true] at qa
            obtain ⟨w, hw, qa⟩ := qa
            have := List.all_eq_true.mp hall w hw
            rw [this] at qa
            cases qa
          simpa [hu] using hp
        · refine hn _ _ (.refl _ _) ⟨fun i hi => ?_, _, _, rfl⟩
          by_cases e : i = k
          · subst e
            rw [hget, List.all_eq_true]
            intro w hw
            have := List.any_eq_false.mp qa w hw
            simpa using this
          · exact hI i (by omega)
      · rintro env ⟨hI, c1, c2, rfl⟩
        simp_arith
        have hu : unlike (t, n) (u, v) zs = true := by
          unfold unlike
          rw [List.all_eq_true]
          intro i hi
          exact hI i (by rw [enmT_len, List.length_map]; exact List.mem_range.mp hi)
        simpa [hu] using hp
    · rw [any_pts] at q5
      rw [q5] at hp
      simpa using hp
    · rw [List.length_map] at q4
      simpa [q4] using hp
    · simpa [q3] using hp
    · simpa [q2] using hp
  | _ => simpa [tyIs, br] using hp
theorem g_plain_digits : Good tx.T tx.ek f_plain_digits := G_plain_digits fun r b P X h => by
  obtain ⟨hr, hb, hp⟩ := h
  unfold b_plain_digits
  simp_arith![sp_check_spots]
  refine ⟨hr, hb, ?_⟩
  refine br2 (fun hc => ?_) (fun hc => by rw [hc] at hp; exact hp)
  rw [hc, br_t] at hp
  obtain ⟨h1, h2⟩ := chk_1 hc
  obtain ⟨t, n, rfl, gr⟩ := ring_of h1
  obtain ⟨a, b, rfl, gz⟩ := spot_of h2
  rw [wN_eq]
  simp_arith[sp_spot_norm]
  simp only [ptD_eq] at hp ⊢
  rw [hc, br_t]
  unfold normB at hp
  refine ⟨fun q1 => ⟨fun q2 => ⟨fun q3 => ?_, fun q3 => ?_⟩, fun q2 => ?c⟩, fun q1 => ?d⟩
  case c => simpa [q2, br] using hp
  case d => simpa [q1, br] using hp
  · have : within 100 (a, b) = false := by unfold within ab; grind
    simpa [this, br] using hp
  · have w100 : within 100 (a, b) = true := by unfold within ab; grind
    simp only [q1, q2, w100, decide_true, Bool.and_self, br_t] at hp
    refine ⟨⟨by omega, by omega⟩, ⟨by omega, by omega⟩, ?_⟩
    refine lcS_map (fun z => .tup [z, .int 0]) (by show 4 < 5; decide) (by rw [rng_len]; unfold sizeLine; omega) (fun d hd k hk => ?_) ?_
    · simp_arith
      exact hk
    have e1 : (rngD 0 (norm (t, n) (a, b))).map (fun z => D.tup [z, .int 0]) = (plainZ (norm (t, n) (a, b))).map pt := by
      unfold rngD plainZ
      rw [List.map_map, List.map_map]
      simp
    rw [e1]
    have w1 : within most (a, b) = true := gz
    have w2 : (plainZ (norm (t, n) (a, b))).all (within most) = true := by
      rw [List.all_eq_true]
      intro z hz
      unfold plainZ at hz
      obtain ⟨k, hk, rfl⟩ := List.mem_map.mp hz
      rw [List.mem_range] at hk
      unfold within ab most
      simp
      omega
    have eB := baseB_eq (r := (t, n)) w1 w2
    simp_arith[sp_is_plane_base]
    rw [h1, br_t, ptD_eq, eB]
    refine ⟨⟨rfl, fun xs e => ?_⟩, ?_⟩
    · cases e
      refine ⟨by simp [plainZ]; omega, fun x hx => ?_⟩
      obtain ⟨z, _, rfl⟩ := List.mem_map.mp hx
      exact M.rowOk_tup.mpr ⟨by simp [sizeLine], by simp [hasTy]⟩
    · cases hb : baseP (t, n) (a, b) (plainZ (norm (t, n) (a, b))) <;> simpa [hb, br] using hp
theorem g_plane_step : Good tx.T tx.ek f_plane_step := G_plane_step fun r b d z P X h => by
  obtain ⟨⟨t, n⟩, ⟨u, v⟩, ⟨x, y⟩, zs, rfl, rfl, rfl, rfl, h1, h2, h3, h4, hp⟩ := h
  unfold b_plane_step
  simp_arith
  have key : ∀ (ds : List Pt) (k : Nat) (c1 c2 c3 : Cl), P (stepF (t, n) (u, v) (x, y) k ds) .non → forS (gxOf tx.T tx.ek f_plane_step) [4, 5] true ((S.asg 6 (E.call 12 ((E.var 0).cons ((E.call 6 ((E.var 3).cons ((E.var 5).cons E.nil))).cons ((E.var 1).cons E.nil))))).seq
      ((S.ife (E.var 6).ntn.tst ((S.ret ((E.var 4).cons ((E.var 6).cons E.nil)).tup).seq S.nil) S.nil).seq S.nil))
    ((S.ret E.non).seq S.nil) (enmT k (ds.map pt)) [.val (pt (t, n)), .val (pt (u, v)), .val (.tup (zs.map pt)), .val (pt (x, y)), c1, c2, c3] (poV P X) := by
    intro ds
    induction ds with
    | nil =>
      intro k c1 c2 c3 h
      simp only [List.map_nil, enmT, forS_nil]
      simp_arith
      exact h
    | cons d ds ih =>
      intro k c1 c2 c3 h
      simp only [List.map_cons, enmT, forS_cons]
      simp_arith[sp_spot_less, two, sp_spot_quotient]
      refine ⟨h1, h2, h3, ?_⟩
      unfold stepF at h
      cases hq : quot (t, n) (less (x, y) d) (u, v) with
      | none =>
        rw [hq] at h
        simp_arith[optD]
        exact ⟨_, .refl _ _, ih _ _ _ _ h⟩
      | some q =>
        rw [hq] at h
        simp_arith[optD]
        exact h
  exact key zs 0 _ _ _ hp
theorem g_is_gauss_base : Good tx.T tx.ek f_is_gauss_base := G_is_gauss_base fun d P X h => by
  obtain ⟨hd, hp⟩ := h
  unfold b_is_gauss_base
  simp_arith![sp_is_spot]
  refine ⟨hd, ?_⟩
  cases hc : isSpot d with
  | false => simpa [hc, br] using hp
  | true =>
    obtain ⟨a, b, rfl, hz⟩ := spot_of hc
    rw [hc, br_t, ptD_eq] at hp
    rw [br_t]
    simp_all_arith
    unfold ab at hp
    refine ⟨fun ha => ?_, fun ha => ?_⟩
    · simpa [ha] using hp
    · simpa [ha] using hp
end Pd.K42

/-! k42: the law's own defs. -/
namespace Pd.K42
open L2 PyProof.Rows PySem.Spec PySem
local macro_rules
  | `(tactic| simp_arith [$ts,*]) => `(tactic| simp only [st_for, st_nil, st_expr, st_asg, st_asgl, st_unp, st_par, st_app, st_seti, st_ret, st_retn, st_brk, st_cnt, st_rmal, st_tr, e_int, e_bl, e_non, e_str, e_fnv, e_gint, e_bin, e_neg, e_cmp, e_isn, e_ntn, e_and, e_or, e_tup, e_lst, e_call, e_cio, e_clv, e_blt, e_isi, e_ix, e_slc, e_rev, e_lrng, e_lc, e_met, wA, wP, wT, kpN_sow, kpN_seq, kpN_rng, kpN_zip, kpN_enm, i_rng, i_seq, i_zip, i_enm, wCs, wHnd, at_, put, putAll, putCs, wTgt, rng_1, rng_2, zip_tt, zip_ll, enm_t, enm_l, cellOf, frE, frF, frB, isOwn, isOwnL, List.getElem?_cons_zero, List.getElem?_cons_succ, List.getElem?_nil, Option.getD_some, Option.getD_none, List.set_cons_zero, List.set_cons_succ, ne_eq, reduceCtorEq, not_false_eq_true, not_true_eq_false, true_and, and_true, if_true, if_false, ite_true, ite_false, Bool.false_eq_true, Bool.true_eq_false, Bool.true_and, Bool.and_true, Bool.false_and, Bool.and_false, Bool.not_true, Bool.not_false, false_implies, true_implies, forall_const, implies_true, bin_add, bin_sub, bin_mul, bin_fdiv, bin_mod, bin_adds, bin_addt, bin_addl, bin_mull, bin_mult, cmp_lt, cmp_le, cmp_gt, cmp_ge, cmp_eqi, cmp_nei, cmp_eqb, cmp_eqs, tru_bl, tru_int, tru_non, tru_tup, tru_lst, tru_frz, ix_tup, len_tup, tpl_tup, lsl_tup, slc_tup, seq_tup, ix_lst, len_lst, tpl_lst, lsl_lst, slc_lst, seq_lst, ix_frz, len_frz, tpl_frz, lsl_frz, slc_frz, seq_frz, len_str, blt_abs, blt_int, blt_intb, blt_max, blt_min, blt_str, blt_all, blt_any, blt_sum, opt_0, opt_1, atI_0, atI_1, atI_2, atI_3, atI_4, ixN_20, ixN_21, ty_bl_int, ty_bl_bool, ty_bl_str, ty_bl_tuple, ty_bl_list, ht_bl, nn_bl, mu_bl, ty_int_int, ty_int_bool, ty_int_str, ty_int_tuple, ty_int_list, ht_int, nn_int, mu_int, ty_str_int, ty_str_bool, ty_str_str, ty_str_tuple, ty_str_list, ht_str, nn_str, mu_str, ty_tup_int, ty_tup_bool, ty_tup_str, ty_tup_tuple, ty_tup_list, ht_tup, nn_tup, mu_tup, ty_lst_int, ty_lst_bool, ty_lst_str, ty_lst_tuple, ty_lst_list, ht_lst, nn_lst, mu_lst, ty_frz_int, ty_frz_bool, ty_frz_str, ty_frz_tuple, ty_frz_list, ht_frz, nn_frz, mu_frz, ty_non_int, ty_non_bool, ty_non_str, ty_non_tuple, ty_non_list, ht_non, nn_non, mu_non, List.map_cons, List.map_nil, exists_eq_left', decide_eq_true_eq, exists_eq_left, List.length_cons, List.length_nil, Nat.reduceAdd, Int.reduceEq, Int.reduceLT, Int.reduceLE, Int.reduceNeg, decide_true, decide_false, Cl.own.injEq, D.tup.injEq, List.mem_cons, List.not_mem_nil, or_false, forall_eq_or_imp, forall_eq, Option.some.injEq, strOk_digits, strOk_zero, strOk_told, strOk_refused, strOk_malformed, i_sow, sw_val, sw_own, br_t, br_f, br_not, br_dec, br_beq, beq_iff_eq, br_and, br_or, br_same, bb_bl, so_ife, eo_ite, eo_chn, eo_not, and_1, and_2, or_1, or_2, ta_n, ta_c, to_n, to_c, cmp_in, cmp_nin, inok_i, inok_int, inok_str, inok_tup, any_ints, scl_int, scl_str, scl_bl, scl_non, sizeLine, Nat.reducePow, blt_maxl, blt_minl, Int.cast_ofNat_Int, st_rexc, rx_ref, rx_nt, cmp_tt, cmn_tt, cmp_ll, cmn_ll, okD_int, okD_bl, okD_non, okD_str, okD_tup, okD_lst, okDs_nil, okDs_cons, depD_int, depD_bl, depD_non, depD_str, depD_tup, depD_lst, depDs_nil, depDs_cons, eqok_ti, eqok_li, eqok_t, eqok_l, okDs_ints, depDs_ints, eq_int, eq_bl, eq_str, eq_non, eq_tup, eq_lst, eqs_nil, eqs_nc, eqs_cn, eqs_ints, eqs_cons, Nat.max_self, Nat.zero_max, Nat.max_zero, Nat.zero_add, Nat.le_refl, Nat.zero_le, pkv_val, pkv_own, evv_val, evv_own, rtv_val, rtv_own, rd_dat, rd_slot, dm_val, dm_own, ev_var, pk_var, rt_var, pk_int, rt_int, pk_bl, rt_bl, pk_non, rt_non, pk_str, rt_str, pk_fnv, rt_fnv, pk_gint, rt_gint, pk_bin, rt_bin, pk_neg, rt_neg, pk_not, rt_not, pk_cmp, rt_cmp, pk_chn, rt_chn, pk_isn, rt_isn, pk_ntn, rt_ntn, pk_and, rt_and, pk_or, rt_or, pk_ite, rt_ite, pk_tup, rt_tup, pk_lst, rt_lst, pk_call, rt_call, pk_cio, rt_cio, pk_clv, rt_clv, pk_blt, rt_blt, pk_isi, rt_isi, pk_ix, rt_ix, pk_slc, rt_slc, pk_rev, rt_rev, pk_lrng, rt_lrng, pk_lc, rt_lc, pk_met, rt_met, S0_eq, S1_eq, S2_eq, S3_eq, S4_eq, S5_eq, S6_eq, M.isint_eq, M.iscnt_eq, M.chkcnt_eq, M.isrow_eq, M.isword_eq, M.state_eq, M.take_eq, M.great_eq, M.says_eq, M.same_eq, M.told_eq, M.allmal_eq, M.badD_eq, M.toldX_mal, M.toldX_ref, M.isI_int, M.isI_bl, M.isI_non, M.isI_str, M.isI_tup, M.isI_lst, M.cnt_i, M.cnt_bl, M.cnt_non, M.cnt_str, M.cnt_tup, M.cnt_lst, M.says_bl, M.says_int, M.says_non, M.isRow_tup, M.isRow_ints, M.isRow_int, M.isRow_bl, M.isRow_non, M.isRow_str, M.isRow_lst, M.rowOk_int, M.rowOk_bl, M.rowOk_non, M.rowOk_str, M.rowOk_lst, M.rowOk_ints, M.rowOk_tup, M.isWord_ints, M.seen_int, M.seen_bl, M.seen_str, M.seen_non, M.seen_lst, M.seen_ints, M.seen_tup, M.due_int, M.due_bl, M.due_str, M.due_non, M.due_t1, M.due_t2, M.due_t3, M.due_t4, M.due_t5, M.due_t6, M.due_l2, M.due_l3, M.due_l4, M.due_l5, M.due_l6, M.same_int, M.same_bl, M.same_str, M.same_non, M.same_tup, M.same_tlst, M.sames_nil, M.sames_cons, List.all_cons, List.all_nil, em, List.replicate_succ, List.replicate_zero, and_self, imp_self, List.any_cons, List.any_nil, Bool.or_true, Bool.true_or, Bool.or_false, Bool.false_or, Bool.or_self, Bool.and_self, Int.reduceAdd, Int.reduceSub, Int.reduceMul, Nat.reduceLeDiff, Nat.reduceLT, Nat.reduceEqDiff, Int.reduceAbs, Int.reduceToNat, Int.toNat_natCast, s_is_integer, fr_is_integer, p_is_integer, s_is_whole_row, fr_is_whole_row, p_is_whole_row, s_is_ring, fr_is_ring, p_is_ring, s_is_spot, fr_is_spot, p_is_spot, s_check_spots, fr_check_spots, p_check_spots, s_spot_plus, fr_spot_plus, p_spot_plus, s_spot_less, fr_spot_less, p_spot_less, s_spot_times, fr_spot_times, p_spot_times, s_spot_product, fr_spot_product, p_spot_product, s_spot_norm, fr_spot_norm, p_spot_norm, s_spot_turned, fr_spot_turned, p_spot_turned, s_spot_over, fr_spot_over, p_spot_over, s_spot_quotient, fr_spot_quotient, p_spot_quotient, s_is_plane_base, fr_is_plane_base, p_is_plane_base, s_plain_digits, fr_plain_digits, p_plain_digits, s_plane_step, fr_plane_step, p_plane_step, s_is_gauss_base, fr_is_gauss_base, p_is_gauss_base, s__law_state, fr__law_state, p__law_state, s__law_take, fr__law_take, p__law_take, s__law_says, fr__law_says, p__law_says, s__law_is_whole, fr__law_is_whole, p__law_is_whole, s__law_same_v, fr__law_same_v, p__law_same_v, s__law_same_0, fr__law_same_0, p__law_same_0, s__law_same_1, fr__law_same_1, p__law_same_1, s__law_same_2, fr__law_same_2, p__law_same_2, s__law_same_3, fr__law_same_3, p__law_same_3, s__law_same_4, fr__law_same_4, p__law_same_4, s__law_told, fr__law_told, p__law_told, s__law_all_malformed, fr__law_all_malformed, p__law_all_malformed, s__law_product, fr__law_product, p__law_product, s__law_norm, fr__law_norm, p__law_norm, s__law_over_spot, fr__law_over_spot, p__law_over_spot, s__law_less, fr__law_less, p__law_less, s__law_ring, fr__law_ring, p__law_ring, s__law_plane, fr__law_plane, p__law_plane, s__law_step, fr__law_step, p__law_step, s__law_spot, fr__law_spot, p__law_spot, s__law_is_spot, fr__law_is_spot, p__law_is_spot, s__law_is_base, fr__law_is_base, p__law_is_base, s_law, fr_law, p_law, v_7, v_9, v_10, v_11, v_13, v_14, v_16, $ts,*])
  | `(tactic| simp_arith) => `(tactic| simp only [st_for, st_nil, st_expr, st_asg, st_asgl, st_unp, st_par, st_app, st_seti, st_ret, st_retn, st_brk, st_cnt, st_rmal, st_tr, e_int, e_bl, e_non, e_str, e_fnv, e_gint, e_bin, e_neg, e_cmp, e_isn, e_ntn, e_and, e_or, e_tup, e_lst, e_call, e_cio, e_clv, e_blt, e_isi, e_ix, e_slc, e_rev, e_lrng, e_lc, e_met, wA, wP, wT, kpN_sow, kpN_seq, kpN_rng, kpN_zip, kpN_enm, i_rng, i_seq, i_zip, i_enm, wCs, wHnd, at_, put, putAll, putCs, wTgt, rng_1, rng_2, zip_tt, zip_ll, enm_t, enm_l, cellOf, frE, frF, frB, isOwn, isOwnL, List.getElem?_cons_zero, List.getElem?_cons_succ, List.getElem?_nil, Option.getD_some, Option.getD_none, List.set_cons_zero, List.set_cons_succ, ne_eq, reduceCtorEq, not_false_eq_true, not_true_eq_false, true_and, and_true, if_true, if_false, ite_true, ite_false, Bool.false_eq_true, Bool.true_eq_false, Bool.true_and, Bool.and_true, Bool.false_and, Bool.and_false, Bool.not_true, Bool.not_false, false_implies, true_implies, forall_const, implies_true, bin_add, bin_sub, bin_mul, bin_fdiv, bin_mod, bin_adds, bin_addt, bin_addl, bin_mull, bin_mult, cmp_lt, cmp_le, cmp_gt, cmp_ge, cmp_eqi, cmp_nei, cmp_eqb, cmp_eqs, tru_bl, tru_int, tru_non, tru_tup, tru_lst, tru_frz, ix_tup, len_tup, tpl_tup, lsl_tup, slc_tup, seq_tup, ix_lst, len_lst, tpl_lst, lsl_lst, slc_lst, seq_lst, ix_frz, len_frz, tpl_frz, lsl_frz, slc_frz, seq_frz, len_str, blt_abs, blt_int, blt_intb, blt_max, blt_min, blt_str, blt_all, blt_any, blt_sum, opt_0, opt_1, atI_0, atI_1, atI_2, atI_3, atI_4, ixN_20, ixN_21, ty_bl_int, ty_bl_bool, ty_bl_str, ty_bl_tuple, ty_bl_list, ht_bl, nn_bl, mu_bl, ty_int_int, ty_int_bool, ty_int_str, ty_int_tuple, ty_int_list, ht_int, nn_int, mu_int, ty_str_int, ty_str_bool, ty_str_str, ty_str_tuple, ty_str_list, ht_str, nn_str, mu_str, ty_tup_int, ty_tup_bool, ty_tup_str, ty_tup_tuple, ty_tup_list, ht_tup, nn_tup, mu_tup, ty_lst_int, ty_lst_bool, ty_lst_str, ty_lst_tuple, ty_lst_list, ht_lst, nn_lst, mu_lst, ty_frz_int, ty_frz_bool, ty_frz_str, ty_frz_tuple, ty_frz_list, ht_frz, nn_frz, mu_frz, ty_non_int, ty_non_bool, ty_non_str, ty_non_tuple, ty_non_list, ht_non, nn_non, mu_non, List.map_cons, List.map_nil, exists_eq_left', decide_eq_true_eq, exists_eq_left, List.length_cons, List.length_nil, Nat.reduceAdd, Int.reduceEq, Int.reduceLT, Int.reduceLE, Int.reduceNeg, decide_true, decide_false, Cl.own.injEq, D.tup.injEq, List.mem_cons, List.not_mem_nil, or_false, forall_eq_or_imp, forall_eq, Option.some.injEq, strOk_digits, strOk_zero, strOk_told, strOk_refused, strOk_malformed, i_sow, sw_val, sw_own, br_t, br_f, br_not, br_dec, br_beq, beq_iff_eq, br_and, br_or, br_same, bb_bl, so_ife, eo_ite, eo_chn, eo_not, and_1, and_2, or_1, or_2, ta_n, ta_c, to_n, to_c, cmp_in, cmp_nin, inok_i, inok_int, inok_str, inok_tup, any_ints, scl_int, scl_str, scl_bl, scl_non, sizeLine, Nat.reducePow, blt_maxl, blt_minl, Int.cast_ofNat_Int, st_rexc, rx_ref, rx_nt, cmp_tt, cmn_tt, cmp_ll, cmn_ll, okD_int, okD_bl, okD_non, okD_str, okD_tup, okD_lst, okDs_nil, okDs_cons, depD_int, depD_bl, depD_non, depD_str, depD_tup, depD_lst, depDs_nil, depDs_cons, eqok_ti, eqok_li, eqok_t, eqok_l, okDs_ints, depDs_ints, eq_int, eq_bl, eq_str, eq_non, eq_tup, eq_lst, eqs_nil, eqs_nc, eqs_cn, eqs_ints, eqs_cons, Nat.max_self, Nat.zero_max, Nat.max_zero, Nat.zero_add, Nat.le_refl, Nat.zero_le, pkv_val, pkv_own, evv_val, evv_own, rtv_val, rtv_own, rd_dat, rd_slot, dm_val, dm_own, ev_var, pk_var, rt_var, pk_int, rt_int, pk_bl, rt_bl, pk_non, rt_non, pk_str, rt_str, pk_fnv, rt_fnv, pk_gint, rt_gint, pk_bin, rt_bin, pk_neg, rt_neg, pk_not, rt_not, pk_cmp, rt_cmp, pk_chn, rt_chn, pk_isn, rt_isn, pk_ntn, rt_ntn, pk_and, rt_and, pk_or, rt_or, pk_ite, rt_ite, pk_tup, rt_tup, pk_lst, rt_lst, pk_call, rt_call, pk_cio, rt_cio, pk_clv, rt_clv, pk_blt, rt_blt, pk_isi, rt_isi, pk_ix, rt_ix, pk_slc, rt_slc, pk_rev, rt_rev, pk_lrng, rt_lrng, pk_lc, rt_lc, pk_met, rt_met, S0_eq, S1_eq, S2_eq, S3_eq, S4_eq, S5_eq, S6_eq, M.isint_eq, M.iscnt_eq, M.chkcnt_eq, M.isrow_eq, M.isword_eq, M.state_eq, M.take_eq, M.great_eq, M.says_eq, M.same_eq, M.told_eq, M.allmal_eq, M.badD_eq, M.toldX_mal, M.toldX_ref, M.isI_int, M.isI_bl, M.isI_non, M.isI_str, M.isI_tup, M.isI_lst, M.cnt_i, M.cnt_bl, M.cnt_non, M.cnt_str, M.cnt_tup, M.cnt_lst, M.says_bl, M.says_int, M.says_non, M.isRow_tup, M.isRow_ints, M.isRow_int, M.isRow_bl, M.isRow_non, M.isRow_str, M.isRow_lst, M.rowOk_int, M.rowOk_bl, M.rowOk_non, M.rowOk_str, M.rowOk_lst, M.rowOk_ints, M.rowOk_tup, M.isWord_ints, M.seen_int, M.seen_bl, M.seen_str, M.seen_non, M.seen_lst, M.seen_ints, M.seen_tup, M.due_int, M.due_bl, M.due_str, M.due_non, M.due_t1, M.due_t2, M.due_t3, M.due_t4, M.due_t5, M.due_t6, M.due_l2, M.due_l3, M.due_l4, M.due_l5, M.due_l6, M.same_int, M.same_bl, M.same_str, M.same_non, M.same_tup, M.same_tlst, M.sames_nil, M.sames_cons, List.all_cons, List.all_nil, em, List.replicate_succ, List.replicate_zero, and_self, imp_self, List.any_cons, List.any_nil, Bool.or_true, Bool.true_or, Bool.or_false, Bool.false_or, Bool.or_self, Bool.and_self, Int.reduceAdd, Int.reduceSub, Int.reduceMul, Nat.reduceLeDiff, Nat.reduceLT, Nat.reduceEqDiff, Int.reduceAbs, Int.reduceToNat, Int.toNat_natCast, s_is_integer, fr_is_integer, p_is_integer, s_is_whole_row, fr_is_whole_row, p_is_whole_row, s_is_ring, fr_is_ring, p_is_ring, s_is_spot, fr_is_spot, p_is_spot, s_check_spots, fr_check_spots, p_check_spots, s_spot_plus, fr_spot_plus, p_spot_plus, s_spot_less, fr_spot_less, p_spot_less, s_spot_times, fr_spot_times, p_spot_times, s_spot_product, fr_spot_product, p_spot_product, s_spot_norm, fr_spot_norm, p_spot_norm, s_spot_turned, fr_spot_turned, p_spot_turned, s_spot_over, fr_spot_over, p_spot_over, s_spot_quotient, fr_spot_quotient, p_spot_quotient, s_is_plane_base, fr_is_plane_base, p_is_plane_base, s_plain_digits, fr_plain_digits, p_plain_digits, s_plane_step, fr_plane_step, p_plane_step, s_is_gauss_base, fr_is_gauss_base, p_is_gauss_base, s__law_state, fr__law_state, p__law_state, s__law_take, fr__law_take, p__law_take, s__law_says, fr__law_says, p__law_says, s__law_is_whole, fr__law_is_whole, p__law_is_whole, s__law_same_v, fr__law_same_v, p__law_same_v, s__law_same_0, fr__law_same_0, p__law_same_0, s__law_same_1, fr__law_same_1, p__law_same_1, s__law_same_2, fr__law_same_2, p__law_same_2, s__law_same_3, fr__law_same_3, p__law_same_3, s__law_same_4, fr__law_same_4, p__law_same_4, s__law_told, fr__law_told, p__law_told, s__law_all_malformed, fr__law_all_malformed, p__law_all_malformed, s__law_product, fr__law_product, p__law_product, s__law_norm, fr__law_norm, p__law_norm, s__law_over_spot, fr__law_over_spot, p__law_over_spot, s__law_less, fr__law_less, p__law_less, s__law_ring, fr__law_ring, p__law_ring, s__law_plane, fr__law_plane, p__law_plane, s__law_step, fr__law_step, p__law_step, s__law_spot, fr__law_spot, p__law_spot, s__law_is_spot, fr__law_is_spot, p__law_is_spot, s__law_is_base, fr__law_is_base, p__law_is_base, s_law, fr_law, p_law, v_7, v_9, v_10, v_11, v_13, v_14, v_16])
local macro_rules
  | `(tactic| simp_arith! [$ts,*]) => `(tactic| simp only [st_for, st_nil, st_ret, st_retn, st_brk, st_cnt, st_rmal, e_int, e_bl, e_non, e_str, e_fnv, e_gint, e_bin, e_neg, e_cmp, e_isn, e_ntn, e_and, e_or, e_tup, e_lst, e_call, e_cio, e_clv, e_blt, e_isi, e_ix, e_slc, e_rev, e_lrng, e_lc, e_met, wA, wP, wT, kpN_sow, kpN_seq, kpN_rng, kpN_zip, kpN_enm, i_rng, i_seq, i_zip, i_enm, wCs, wHnd, at_, put, putAll, putCs, wTgt, rng_1, rng_2, zip_tt, zip_ll, enm_t, enm_l, cellOf, frE, frF, frB, isOwn, isOwnL, List.getElem?_cons_zero, List.getElem?_cons_succ, List.getElem?_nil, Option.getD_some, Option.getD_none, List.set_cons_zero, List.set_cons_succ, ne_eq, reduceCtorEq, not_false_eq_true, not_true_eq_false, true_and, and_true, if_true, if_false, ite_true, ite_false, Bool.false_eq_true, Bool.true_eq_false, Bool.true_and, Bool.and_true, Bool.false_and, Bool.and_false, Bool.not_true, Bool.not_false, false_implies, true_implies, forall_const, implies_true, bin_add, bin_sub, bin_mul, bin_fdiv, bin_mod, bin_adds, bin_addt, bin_addl, bin_mull, bin_mult, cmp_lt, cmp_le, cmp_gt, cmp_ge, cmp_eqi, cmp_nei, cmp_eqb, cmp_eqs, tru_bl, tru_int, tru_non, tru_tup, tru_lst, tru_frz, ix_tup, len_tup, tpl_tup, lsl_tup, slc_tup, seq_tup, ix_lst, len_lst, tpl_lst, lsl_lst, slc_lst, seq_lst, ix_frz, len_frz, tpl_frz, lsl_frz, slc_frz, seq_frz, len_str, blt_abs, blt_int, blt_intb, blt_max, blt_min, blt_str, blt_all, blt_any, blt_sum, opt_0, opt_1, atI_0, atI_1, atI_2, atI_3, atI_4, ixN_20, ixN_21, ty_bl_int, ty_bl_bool, ty_bl_str, ty_bl_tuple, ty_bl_list, ht_bl, nn_bl, mu_bl, ty_int_int, ty_int_bool, ty_int_str, ty_int_tuple, ty_int_list, ht_int, nn_int, mu_int, ty_str_int, ty_str_bool, ty_str_str, ty_str_tuple, ty_str_list, ht_str, nn_str, mu_str, ty_tup_int, ty_tup_bool, ty_tup_str, ty_tup_tuple, ty_tup_list, ht_tup, nn_tup, mu_tup, ty_lst_int, ty_lst_bool, ty_lst_str, ty_lst_tuple, ty_lst_list, ht_lst, nn_lst, mu_lst, ty_frz_int, ty_frz_bool, ty_frz_str, ty_frz_tuple, ty_frz_list, ht_frz, nn_frz, mu_frz, ty_non_int, ty_non_bool, ty_non_str, ty_non_tuple, ty_non_list, ht_non, nn_non, mu_non, List.map_cons, List.map_nil, exists_eq_left', decide_eq_true_eq, exists_eq_left, List.length_cons, List.length_nil, Nat.reduceAdd, Int.reduceEq, Int.reduceLT, Int.reduceLE, Int.reduceNeg, decide_true, decide_false, Cl.own.injEq, D.tup.injEq, List.mem_cons, List.not_mem_nil, or_false, forall_eq_or_imp, forall_eq, Option.some.injEq, strOk_digits, strOk_zero, strOk_told, strOk_refused, strOk_malformed, i_sow, sw_val, sw_own, br_t, br_f, br_not, br_dec, br_beq, beq_iff_eq, br_and, br_or, br_same, bb_bl, eo_ite, eo_chn, eo_not, and_1, and_2, or_1, or_2, ta_n, ta_c, to_n, to_c, cmp_in, cmp_nin, inok_i, inok_int, inok_str, inok_tup, any_ints, scl_int, scl_str, scl_bl, scl_non, sizeLine, Nat.reducePow, blt_maxl, blt_minl, Int.cast_ofNat_Int, st_rexc, rx_ref, rx_nt, cmp_tt, cmn_tt, cmp_ll, cmn_ll, okD_int, okD_bl, okD_non, okD_str, okD_tup, okD_lst, okDs_nil, okDs_cons, depD_int, depD_bl, depD_non, depD_str, depD_tup, depD_lst, depDs_nil, depDs_cons, eqok_ti, eqok_li, eqok_t, eqok_l, okDs_ints, depDs_ints, eq_int, eq_bl, eq_str, eq_non, eq_tup, eq_lst, eqs_nil, eqs_nc, eqs_cn, eqs_ints, eqs_cons, Nat.max_self, Nat.zero_max, Nat.max_zero, Nat.zero_add, Nat.le_refl, Nat.zero_le, pkv_val, pkv_own, evv_val, evv_own, rtv_val, rtv_own, rd_dat, rd_slot, dm_val, dm_own, ev_var, pk_var, rt_var, pk_int, rt_int, pk_bl, rt_bl, pk_non, rt_non, pk_str, rt_str, pk_fnv, rt_fnv, pk_gint, rt_gint, pk_bin, rt_bin, pk_neg, rt_neg, pk_not, rt_not, pk_cmp, rt_cmp, pk_chn, rt_chn, pk_isn, rt_isn, pk_ntn, rt_ntn, pk_and, rt_and, pk_or, rt_or, pk_ite, rt_ite, pk_tup, rt_tup, pk_lst, rt_lst, pk_call, rt_call, pk_cio, rt_cio, pk_clv, rt_clv, pk_blt, rt_blt, pk_isi, rt_isi, pk_ix, rt_ix, pk_slc, rt_slc, pk_rev, rt_rev, pk_lrng, rt_lrng, pk_lc, rt_lc, pk_met, rt_met, S0_eq, S1_eq, S2_eq, S3_eq, S4_eq, S5_eq, S6_eq, M.isint_eq, M.iscnt_eq, M.chkcnt_eq, M.isrow_eq, M.isword_eq, M.state_eq, M.take_eq, M.great_eq, M.says_eq, M.same_eq, M.told_eq, M.allmal_eq, M.badD_eq, M.toldX_mal, M.toldX_ref, M.isI_int, M.isI_bl, M.isI_non, M.isI_str, M.isI_tup, M.isI_lst, M.cnt_i, M.cnt_bl, M.cnt_non, M.cnt_str, M.cnt_tup, M.cnt_lst, M.says_bl, M.says_int, M.says_non, M.isRow_tup, M.isRow_ints, M.isRow_int, M.isRow_bl, M.isRow_non, M.isRow_str, M.isRow_lst, M.rowOk_int, M.rowOk_bl, M.rowOk_non, M.rowOk_str, M.rowOk_lst, M.rowOk_ints, M.rowOk_tup, M.isWord_ints, M.seen_int, M.seen_bl, M.seen_str, M.seen_non, M.seen_lst, M.seen_ints, M.seen_tup, M.due_int, M.due_bl, M.due_str, M.due_non, M.due_t1, M.due_t2, M.due_t3, M.due_t4, M.due_t5, M.due_t6, M.due_l2, M.due_l3, M.due_l4, M.due_l5, M.due_l6, M.same_int, M.same_bl, M.same_str, M.same_non, M.same_tup, M.same_tlst, M.sames_nil, M.sames_cons, List.all_cons, List.all_nil, em, List.replicate_succ, List.replicate_zero, and_self, imp_self, List.any_cons, List.any_nil, Bool.or_true, Bool.true_or, Bool.or_false, Bool.false_or, Bool.or_self, Bool.and_self, Int.reduceAdd, Int.reduceSub, Int.reduceMul, Nat.reduceLeDiff, Nat.reduceLT, Nat.reduceEqDiff, Int.reduceAbs, Int.reduceToNat, Int.toNat_natCast, s_is_integer, fr_is_integer, p_is_integer, s_is_whole_row, fr_is_whole_row, p_is_whole_row, s_is_ring, fr_is_ring, p_is_ring, s_is_spot, fr_is_spot, p_is_spot, s_check_spots, fr_check_spots, p_check_spots, s_spot_plus, fr_spot_plus, p_spot_plus, s_spot_less, fr_spot_less, p_spot_less, s_spot_times, fr_spot_times, p_spot_times, s_spot_product, fr_spot_product, p_spot_product, s_spot_norm, fr_spot_norm, p_spot_norm, s_spot_turned, fr_spot_turned, p_spot_turned, s_spot_over, fr_spot_over, p_spot_over, s_spot_quotient, fr_spot_quotient, p_spot_quotient, s_is_plane_base, fr_is_plane_base, p_is_plane_base, s_plain_digits, fr_plain_digits, p_plain_digits, s_plane_step, fr_plane_step, p_plane_step, s_is_gauss_base, fr_is_gauss_base, p_is_gauss_base, s__law_state, fr__law_state, p__law_state, s__law_take, fr__law_take, p__law_take, s__law_says, fr__law_says, p__law_says, s__law_is_whole, fr__law_is_whole, p__law_is_whole, s__law_same_v, fr__law_same_v, p__law_same_v, s__law_same_0, fr__law_same_0, p__law_same_0, s__law_same_1, fr__law_same_1, p__law_same_1, s__law_same_2, fr__law_same_2, p__law_same_2, s__law_same_3, fr__law_same_3, p__law_same_3, s__law_same_4, fr__law_same_4, p__law_same_4, s__law_told, fr__law_told, p__law_told, s__law_all_malformed, fr__law_all_malformed, p__law_all_malformed, s__law_product, fr__law_product, p__law_product, s__law_norm, fr__law_norm, p__law_norm, s__law_over_spot, fr__law_over_spot, p__law_over_spot, s__law_less, fr__law_less, p__law_less, s__law_ring, fr__law_ring, p__law_ring, s__law_plane, fr__law_plane, p__law_plane, s__law_step, fr__law_step, p__law_step, s__law_spot, fr__law_spot, p__law_spot, s__law_is_spot, fr__law_is_spot, p__law_is_spot, s__law_is_base, fr__law_is_base, p__law_is_base, s_law, fr_law, p_law, v_7, v_9, v_10, v_11, v_13, v_14, v_16, sn_expr, sn_asg, sn_asgl, sn_unp, sn_par, sn_app, sn_seti, sn_tr, so_ifn, $ts,*])
  | `(tactic| simp_arith!) => `(tactic| simp only [st_for, st_nil, st_ret, st_retn, st_brk, st_cnt, st_rmal, e_int, e_bl, e_non, e_str, e_fnv, e_gint, e_bin, e_neg, e_cmp, e_isn, e_ntn, e_and, e_or, e_tup, e_lst, e_call, e_cio, e_clv, e_blt, e_isi, e_ix, e_slc, e_rev, e_lrng, e_lc, e_met, wA, wP, wT, kpN_sow, kpN_seq, kpN_rng, kpN_zip, kpN_enm, i_rng, i_seq, i_zip, i_enm, wCs, wHnd, at_, put, putAll, putCs, wTgt, rng_1, rng_2, zip_tt, zip_ll, enm_t, enm_l, cellOf, frE, frF, frB, isOwn, isOwnL, List.getElem?_cons_zero, List.getElem?_cons_succ, List.getElem?_nil, Option.getD_some, Option.getD_none, List.set_cons_zero, List.set_cons_succ, ne_eq, reduceCtorEq, not_false_eq_true, not_true_eq_false, true_and, and_true, if_true, if_false, ite_true, ite_false, Bool.false_eq_true, Bool.true_eq_false, Bool.true_and, Bool.and_true, Bool.false_and, Bool.and_false, Bool.not_true, Bool.not_false, false_implies, true_implies, forall_const, implies_true, bin_add, bin_sub, bin_mul, bin_fdiv, bin_mod, bin_adds, bin_addt, bin_addl, bin_mull, bin_mult, cmp_lt, cmp_le, cmp_gt, cmp_ge, cmp_eqi, cmp_nei, cmp_eqb, cmp_eqs, tru_bl, tru_int, tru_non, tru_tup, tru_lst, tru_frz, ix_tup, len_tup, tpl_tup, lsl_tup, slc_tup, seq_tup, ix_lst, len_lst, tpl_lst, lsl_lst, slc_lst, seq_lst, ix_frz, len_frz, tpl_frz, lsl_frz, slc_frz, seq_frz, len_str, blt_abs, blt_int, blt_intb, blt_max, blt_min, blt_str, blt_all, blt_any, blt_sum, opt_0, opt_1, atI_0, atI_1, atI_2, atI_3, atI_4, ixN_20, ixN_21, ty_bl_int, ty_bl_bool, ty_bl_str, ty_bl_tuple, ty_bl_list, ht_bl, nn_bl, mu_bl, ty_int_int, ty_int_bool, ty_int_str, ty_int_tuple, ty_int_list, ht_int, nn_int, mu_int, ty_str_int, ty_str_bool, ty_str_str, ty_str_tuple, ty_str_list, ht_str, nn_str, mu_str, ty_tup_int, ty_tup_bool, ty_tup_str, ty_tup_tuple, ty_tup_list, ht_tup, nn_tup, mu_tup, ty_lst_int, ty_lst_bool, ty_lst_str, ty_lst_tuple, ty_lst_list, ht_lst, nn_lst, mu_lst, ty_frz_int, ty_frz_bool, ty_frz_str, ty_frz_tuple, ty_frz_list, ht_frz, nn_frz, mu_frz, ty_non_int, ty_non_bool, ty_non_str, ty_non_tuple, ty_non_list, ht_non, nn_non, mu_non, List.map_cons, List.map_nil, exists_eq_left', decide_eq_true_eq, exists_eq_left, List.length_cons, List.length_nil, Nat.reduceAdd, Int.reduceEq, Int.reduceLT, Int.reduceLE, Int.reduceNeg, decide_true, decide_false, Cl.own.injEq, D.tup.injEq, List.mem_cons, List.not_mem_nil, or_false, forall_eq_or_imp, forall_eq, Option.some.injEq, strOk_digits, strOk_zero, strOk_told, strOk_refused, strOk_malformed, i_sow, sw_val, sw_own, br_t, br_f, br_not, br_dec, br_beq, beq_iff_eq, br_and, br_or, br_same, bb_bl, eo_ite, eo_chn, eo_not, and_1, and_2, or_1, or_2, ta_n, ta_c, to_n, to_c, cmp_in, cmp_nin, inok_i, inok_int, inok_str, inok_tup, any_ints, scl_int, scl_str, scl_bl, scl_non, sizeLine, Nat.reducePow, blt_maxl, blt_minl, Int.cast_ofNat_Int, st_rexc, rx_ref, rx_nt, cmp_tt, cmn_tt, cmp_ll, cmn_ll, okD_int, okD_bl, okD_non, okD_str, okD_tup, okD_lst, okDs_nil, okDs_cons, depD_int, depD_bl, depD_non, depD_str, depD_tup, depD_lst, depDs_nil, depDs_cons, eqok_ti, eqok_li, eqok_t, eqok_l, okDs_ints, depDs_ints, eq_int, eq_bl, eq_str, eq_non, eq_tup, eq_lst, eqs_nil, eqs_nc, eqs_cn, eqs_ints, eqs_cons, Nat.max_self, Nat.zero_max, Nat.max_zero, Nat.zero_add, Nat.le_refl, Nat.zero_le, pkv_val, pkv_own, evv_val, evv_own, rtv_val, rtv_own, rd_dat, rd_slot, dm_val, dm_own, ev_var, pk_var, rt_var, pk_int, rt_int, pk_bl, rt_bl, pk_non, rt_non, pk_str, rt_str, pk_fnv, rt_fnv, pk_gint, rt_gint, pk_bin, rt_bin, pk_neg, rt_neg, pk_not, rt_not, pk_cmp, rt_cmp, pk_chn, rt_chn, pk_isn, rt_isn, pk_ntn, rt_ntn, pk_and, rt_and, pk_or, rt_or, pk_ite, rt_ite, pk_tup, rt_tup, pk_lst, rt_lst, pk_call, rt_call, pk_cio, rt_cio, pk_clv, rt_clv, pk_blt, rt_blt, pk_isi, rt_isi, pk_ix, rt_ix, pk_slc, rt_slc, pk_rev, rt_rev, pk_lrng, rt_lrng, pk_lc, rt_lc, pk_met, rt_met, S0_eq, S1_eq, S2_eq, S3_eq, S4_eq, S5_eq, S6_eq, M.isint_eq, M.iscnt_eq, M.chkcnt_eq, M.isrow_eq, M.isword_eq, M.state_eq, M.take_eq, M.great_eq, M.says_eq, M.same_eq, M.told_eq, M.allmal_eq, M.badD_eq, M.toldX_mal, M.toldX_ref, M.isI_int, M.isI_bl, M.isI_non, M.isI_str, M.isI_tup, M.isI_lst, M.cnt_i, M.cnt_bl, M.cnt_non, M.cnt_str, M.cnt_tup, M.cnt_lst, M.says_bl, M.says_int, M.says_non, M.isRow_tup, M.isRow_ints, M.isRow_int, M.isRow_bl, M.isRow_non, M.isRow_str, M.isRow_lst, M.rowOk_int, M.rowOk_bl, M.rowOk_non, M.rowOk_str, M.rowOk_lst, M.rowOk_ints, M.rowOk_tup, M.isWord_ints, M.seen_int, M.seen_bl, M.seen_str, M.seen_non, M.seen_lst, M.seen_ints, M.seen_tup, M.due_int, M.due_bl, M.due_str, M.due_non, M.due_t1, M.due_t2, M.due_t3, M.due_t4, M.due_t5, M.due_t6, M.due_l2, M.due_l3, M.due_l4, M.due_l5, M.due_l6, M.same_int, M.same_bl, M.same_str, M.same_non, M.same_tup, M.same_tlst, M.sames_nil, M.sames_cons, List.all_cons, List.all_nil, em, List.replicate_succ, List.replicate_zero, and_self, imp_self, List.any_cons, List.any_nil, Bool.or_true, Bool.true_or, Bool.or_false, Bool.false_or, Bool.or_self, Bool.and_self, Int.reduceAdd, Int.reduceSub, Int.reduceMul, Nat.reduceLeDiff, Nat.reduceLT, Nat.reduceEqDiff, Int.reduceAbs, Int.reduceToNat, Int.toNat_natCast, s_is_integer, fr_is_integer, p_is_integer, s_is_whole_row, fr_is_whole_row, p_is_whole_row, s_is_ring, fr_is_ring, p_is_ring, s_is_spot, fr_is_spot, p_is_spot, s_check_spots, fr_check_spots, p_check_spots, s_spot_plus, fr_spot_plus, p_spot_plus, s_spot_less, fr_spot_less, p_spot_less, s_spot_times, fr_spot_times, p_spot_times, s_spot_product, fr_spot_product, p_spot_product, s_spot_norm, fr_spot_norm, p_spot_norm, s_spot_turned, fr_spot_turned, p_spot_turned, s_spot_over, fr_spot_over, p_spot_over, s_spot_quotient, fr_spot_quotient, p_spot_quotient, s_is_plane_base, fr_is_plane_base, p_is_plane_base, s_plain_digits, fr_plain_digits, p_plain_digits, s_plane_step, fr_plane_step, p_plane_step, s_is_gauss_base, fr_is_gauss_base, p_is_gauss_base, s__law_state, fr__law_state, p__law_state, s__law_take, fr__law_take, p__law_take, s__law_says, fr__law_says, p__law_says, s__law_is_whole, fr__law_is_whole, p__law_is_whole, s__law_same_v, fr__law_same_v, p__law_same_v, s__law_same_0, fr__law_same_0, p__law_same_0, s__law_same_1, fr__law_same_1, p__law_same_1, s__law_same_2, fr__law_same_2, p__law_same_2, s__law_same_3, fr__law_same_3, p__law_same_3, s__law_same_4, fr__law_same_4, p__law_same_4, s__law_told, fr__law_told, p__law_told, s__law_all_malformed, fr__law_all_malformed, p__law_all_malformed, s__law_product, fr__law_product, p__law_product, s__law_norm, fr__law_norm, p__law_norm, s__law_over_spot, fr__law_over_spot, p__law_over_spot, s__law_less, fr__law_less, p__law_less, s__law_ring, fr__law_ring, p__law_ring, s__law_plane, fr__law_plane, p__law_plane, s__law_step, fr__law_step, p__law_step, s__law_spot, fr__law_spot, p__law_spot, s__law_is_spot, fr__law_is_spot, p__law_is_spot, s__law_is_base, fr__law_is_base, p__law_is_base, s_law, fr_law, p_law, v_7, v_9, v_10, v_11, v_13, v_14, v_16, sn_expr, sn_asg, sn_asgl, sn_unp, sn_par, sn_app, sn_seti, sn_tr, so_ifn])
local macro_rules
  | `(tactic| simp_all_arith [$ts,*]) => `(tactic| ((try (dsimp only)); (try (rw [wN_eq])); try simp only [st_for, st_nil, st_ret, st_retn, st_brk, st_cnt, st_rmal, e_int, e_bl, e_non, e_str, e_fnv, e_gint, e_bin, e_neg, e_cmp, e_isn, e_ntn, e_and, e_or, e_tup, e_lst, e_call, e_cio, e_clv, e_blt, e_isi, e_ix, e_slc, e_rev, e_lrng, e_lc, e_met, wA, wP, wT, kpN_sow, kpN_seq, kpN_rng, kpN_zip, kpN_enm, i_rng, i_seq, i_zip, i_enm, wCs, wHnd, at_, put, putAll, putCs, wTgt, rng_1, rng_2, zip_tt, zip_ll, enm_t, enm_l, cellOf, frE, frF, frB, isOwn, isOwnL, List.getElem?_cons_zero, List.getElem?_cons_succ, List.getElem?_nil, Option.getD_some, Option.getD_none, List.set_cons_zero, List.set_cons_succ, ne_eq, reduceCtorEq, not_false_eq_true, not_true_eq_false, true_and, and_true, if_true, if_false, ite_true, ite_false, Bool.false_eq_true, Bool.true_eq_false, Bool.true_and, Bool.and_true, Bool.false_and, Bool.and_false, Bool.not_true, Bool.not_false, false_implies, true_implies, forall_const, implies_true, bin_add, bin_sub, bin_mul, bin_fdiv, bin_mod, bin_adds, bin_addt, bin_addl, bin_mull, bin_mult, cmp_lt, cmp_le, cmp_gt, cmp_ge, cmp_eqi, cmp_nei, cmp_eqb, cmp_eqs, tru_bl, tru_int, tru_non, tru_tup, tru_lst, tru_frz, ix_tup, len_tup, tpl_tup, lsl_tup, slc_tup, seq_tup, ix_lst, len_lst, tpl_lst, lsl_lst, slc_lst, seq_lst, ix_frz, len_frz, tpl_frz, lsl_frz, slc_frz, seq_frz, len_str, blt_abs, blt_int, blt_intb, blt_max, blt_min, blt_str, blt_all, blt_any, blt_sum, opt_0, opt_1, atI_0, atI_1, atI_2, atI_3, atI_4, ixN_20, ixN_21, ty_bl_int, ty_bl_bool, ty_bl_str, ty_bl_tuple, ty_bl_list, ht_bl, nn_bl, mu_bl, ty_int_int, ty_int_bool, ty_int_str, ty_int_tuple, ty_int_list, ht_int, nn_int, mu_int, ty_str_int, ty_str_bool, ty_str_str, ty_str_tuple, ty_str_list, ht_str, nn_str, mu_str, ty_tup_int, ty_tup_bool, ty_tup_str, ty_tup_tuple, ty_tup_list, ht_tup, nn_tup, mu_tup, ty_lst_int, ty_lst_bool, ty_lst_str, ty_lst_tuple, ty_lst_list, ht_lst, nn_lst, mu_lst, ty_frz_int, ty_frz_bool, ty_frz_str, ty_frz_tuple, ty_frz_list, ht_frz, nn_frz, mu_frz, ty_non_int, ty_non_bool, ty_non_str, ty_non_tuple, ty_non_list, ht_non, nn_non, mu_non, List.map_cons, List.map_nil, exists_eq_left', decide_eq_true_eq, exists_eq_left, List.length_cons, List.length_nil, Nat.reduceAdd, Int.reduceEq, Int.reduceLT, Int.reduceLE, Int.reduceNeg, decide_true, decide_false, Cl.own.injEq, D.tup.injEq, List.mem_cons, List.not_mem_nil, or_false, forall_eq_or_imp, forall_eq, Option.some.injEq, strOk_digits, strOk_zero, strOk_told, strOk_refused, strOk_malformed, i_sow, sw_val, sw_own, br_t, br_f, br_not, br_dec, br_beq, beq_iff_eq, br_and, br_or, br_same, bb_bl, eo_ite, eo_chn, eo_not, and_1, and_2, or_1, or_2, ta_n, ta_c, to_n, to_c, cmp_in, cmp_nin, inok_i, inok_int, inok_str, inok_tup, any_ints, scl_int, scl_str, scl_bl, scl_non, sizeLine, Nat.reducePow, blt_maxl, blt_minl, Int.cast_ofNat_Int, st_rexc, rx_ref, rx_nt, cmp_tt, cmn_tt, cmp_ll, cmn_ll, okD_int, okD_bl, okD_non, okD_str, okD_tup, okD_lst, okDs_nil, okDs_cons, depD_int, depD_bl, depD_non, depD_str, depD_tup, depD_lst, depDs_nil, depDs_cons, eqok_ti, eqok_li, eqok_t, eqok_l, okDs_ints, depDs_ints, eq_int, eq_bl, eq_str, eq_non, eq_tup, eq_lst, eqs_nil, eqs_nc, eqs_cn, eqs_ints, eqs_cons, Nat.max_self, Nat.zero_max, Nat.max_zero, Nat.zero_add, Nat.le_refl, Nat.zero_le, pkv_val, pkv_own, evv_val, evv_own, rtv_val, rtv_own, rd_dat, rd_slot, dm_val, dm_own, ev_var, pk_var, rt_var, pk_int, rt_int, pk_bl, rt_bl, pk_non, rt_non, pk_str, rt_str, pk_fnv, rt_fnv, pk_gint, rt_gint, pk_bin, rt_bin, pk_neg, rt_neg, pk_not, rt_not, pk_cmp, rt_cmp, pk_chn, rt_chn, pk_isn, rt_isn, pk_ntn, rt_ntn, pk_and, rt_and, pk_or, rt_or, pk_ite, rt_ite, pk_tup, rt_tup, pk_lst, rt_lst, pk_call, rt_call, pk_cio, rt_cio, pk_clv, rt_clv, pk_blt, rt_blt, pk_isi, rt_isi, pk_ix, rt_ix, pk_slc, rt_slc, pk_rev, rt_rev, pk_lrng, rt_lrng, pk_lc, rt_lc, pk_met, rt_met, S0_eq, S1_eq, S2_eq, S3_eq, S4_eq, S5_eq, S6_eq, M.isint_eq, M.iscnt_eq, M.chkcnt_eq, M.isrow_eq, M.isword_eq, M.state_eq, M.take_eq, M.great_eq, M.says_eq, M.same_eq, M.told_eq, M.allmal_eq, M.badD_eq, M.toldX_mal, M.toldX_ref, M.isI_int, M.isI_bl, M.isI_non, M.isI_str, M.isI_tup, M.isI_lst, M.cnt_i, M.cnt_bl, M.cnt_non, M.cnt_str, M.cnt_tup, M.cnt_lst, M.says_bl, M.says_int, M.says_non, M.isRow_tup, M.isRow_ints, M.isRow_int, M.isRow_bl, M.isRow_non, M.isRow_str, M.isRow_lst, M.rowOk_int, M.rowOk_bl, M.rowOk_non, M.rowOk_str, M.rowOk_lst, M.rowOk_ints, M.rowOk_tup, M.isWord_ints, M.seen_int, M.seen_bl, M.seen_str, M.seen_non, M.seen_lst, M.seen_ints, M.seen_tup, M.due_int, M.due_bl, M.due_str, M.due_non, M.due_t1, M.due_t2, M.due_t3, M.due_t4, M.due_t5, M.due_t6, M.due_l2, M.due_l3, M.due_l4, M.due_l5, M.due_l6, M.same_int, M.same_bl, M.same_str, M.same_non, M.same_tup, M.same_tlst, M.sames_nil, M.sames_cons, List.all_cons, List.all_nil, em, List.replicate_succ, List.replicate_zero, and_self, imp_self, List.any_cons, List.any_nil, Bool.or_true, Bool.true_or, Bool.or_false, Bool.false_or, Bool.or_self, Bool.and_self, Int.reduceAdd, Int.reduceSub, Int.reduceMul, Nat.reduceLeDiff, Nat.reduceLT, Nat.reduceEqDiff, Int.reduceAbs, Int.reduceToNat, Int.toNat_natCast, s_is_integer, fr_is_integer, p_is_integer, s_is_whole_row, fr_is_whole_row, p_is_whole_row, s_is_ring, fr_is_ring, p_is_ring, s_is_spot, fr_is_spot, p_is_spot, s_check_spots, fr_check_spots, p_check_spots, s_spot_plus, fr_spot_plus, p_spot_plus, s_spot_less, fr_spot_less, p_spot_less, s_spot_times, fr_spot_times, p_spot_times, s_spot_product, fr_spot_product, p_spot_product, s_spot_norm, fr_spot_norm, p_spot_norm, s_spot_turned, fr_spot_turned, p_spot_turned, s_spot_over, fr_spot_over, p_spot_over, s_spot_quotient, fr_spot_quotient, p_spot_quotient, s_is_plane_base, fr_is_plane_base, p_is_plane_base, s_plain_digits, fr_plain_digits, p_plain_digits, s_plane_step, fr_plane_step, p_plane_step, s_is_gauss_base, fr_is_gauss_base, p_is_gauss_base, s__law_state, fr__law_state, p__law_state, s__law_take, fr__law_take, p__law_take, s__law_says, fr__law_says, p__law_says, s__law_is_whole, fr__law_is_whole, p__law_is_whole, s__law_same_v, fr__law_same_v, p__law_same_v, s__law_same_0, fr__law_same_0, p__law_same_0, s__law_same_1, fr__law_same_1, p__law_same_1, s__law_same_2, fr__law_same_2, p__law_same_2, s__law_same_3, fr__law_same_3, p__law_same_3, s__law_same_4, fr__law_same_4, p__law_same_4, s__law_told, fr__law_told, p__law_told, s__law_all_malformed, fr__law_all_malformed, p__law_all_malformed, s__law_product, fr__law_product, p__law_product, s__law_norm, fr__law_norm, p__law_norm, s__law_over_spot, fr__law_over_spot, p__law_over_spot, s__law_less, fr__law_less, p__law_less, s__law_ring, fr__law_ring, p__law_ring, s__law_plane, fr__law_plane, p__law_plane, s__law_step, fr__law_step, p__law_step, s__law_spot, fr__law_spot, p__law_spot, s__law_is_spot, fr__law_is_spot, p__law_is_spot, s__law_is_base, fr__law_is_base, p__law_is_base, s_law, fr_law, p_law, v_7, v_9, v_10, v_11, v_13, v_14, v_16, sn_expr, sn_asg, sn_asgl, sn_unp, sn_par, sn_app, sn_seti, sn_tr, so_ifn, $ts,*]))
  | `(tactic| simp_all_arith) => `(tactic| ((try (dsimp only)); (try (rw [wN_eq])); try simp only [st_for, st_nil, st_ret, st_retn, st_brk, st_cnt, st_rmal, e_int, e_bl, e_non, e_str, e_fnv, e_gint, e_bin, e_neg, e_cmp, e_isn, e_ntn, e_and, e_or, e_tup, e_lst, e_call, e_cio, e_clv, e_blt, e_isi, e_ix, e_slc, e_rev, e_lrng, e_lc, e_met, wA, wP, wT, kpN_sow, kpN_seq, kpN_rng, kpN_zip, kpN_enm, i_rng, i_seq, i_zip, i_enm, wCs, wHnd, at_, put, putAll, putCs, wTgt, rng_1, rng_2, zip_tt, zip_ll, enm_t, enm_l, cellOf, frE, frF, frB, isOwn, isOwnL, List.getElem?_cons_zero, List.getElem?_cons_succ, List.getElem?_nil, Option.getD_some, Option.getD_none, List.set_cons_zero, List.set_cons_succ, ne_eq, reduceCtorEq, not_false_eq_true, not_true_eq_false, true_and, and_true, if_true, if_false, ite_true, ite_false, Bool.false_eq_true, Bool.true_eq_false, Bool.true_and, Bool.and_true, Bool.false_and, Bool.and_false, Bool.not_true, Bool.not_false, false_implies, true_implies, forall_const, implies_true, bin_add, bin_sub, bin_mul, bin_fdiv, bin_mod, bin_adds, bin_addt, bin_addl, bin_mull, bin_mult, cmp_lt, cmp_le, cmp_gt, cmp_ge, cmp_eqi, cmp_nei, cmp_eqb, cmp_eqs, tru_bl, tru_int, tru_non, tru_tup, tru_lst, tru_frz, ix_tup, len_tup, tpl_tup, lsl_tup, slc_tup, seq_tup, ix_lst, len_lst, tpl_lst, lsl_lst, slc_lst, seq_lst, ix_frz, len_frz, tpl_frz, lsl_frz, slc_frz, seq_frz, len_str, blt_abs, blt_int, blt_intb, blt_max, blt_min, blt_str, blt_all, blt_any, blt_sum, opt_0, opt_1, atI_0, atI_1, atI_2, atI_3, atI_4, ixN_20, ixN_21, ty_bl_int, ty_bl_bool, ty_bl_str, ty_bl_tuple, ty_bl_list, ht_bl, nn_bl, mu_bl, ty_int_int, ty_int_bool, ty_int_str, ty_int_tuple, ty_int_list, ht_int, nn_int, mu_int, ty_str_int, ty_str_bool, ty_str_str, ty_str_tuple, ty_str_list, ht_str, nn_str, mu_str, ty_tup_int, ty_tup_bool, ty_tup_str, ty_tup_tuple, ty_tup_list, ht_tup, nn_tup, mu_tup, ty_lst_int, ty_lst_bool, ty_lst_str, ty_lst_tuple, ty_lst_list, ht_lst, nn_lst, mu_lst, ty_frz_int, ty_frz_bool, ty_frz_str, ty_frz_tuple, ty_frz_list, ht_frz, nn_frz, mu_frz, ty_non_int, ty_non_bool, ty_non_str, ty_non_tuple, ty_non_list, ht_non, nn_non, mu_non, List.map_cons, List.map_nil, exists_eq_left', decide_eq_true_eq, exists_eq_left, List.length_cons, List.length_nil, Nat.reduceAdd, Int.reduceEq, Int.reduceLT, Int.reduceLE, Int.reduceNeg, decide_true, decide_false, Cl.own.injEq, D.tup.injEq, List.mem_cons, List.not_mem_nil, or_false, forall_eq_or_imp, forall_eq, Option.some.injEq, strOk_digits, strOk_zero, strOk_told, strOk_refused, strOk_malformed, i_sow, sw_val, sw_own, br_t, br_f, br_not, br_dec, br_beq, beq_iff_eq, br_and, br_or, br_same, bb_bl, eo_ite, eo_chn, eo_not, and_1, and_2, or_1, or_2, ta_n, ta_c, to_n, to_c, cmp_in, cmp_nin, inok_i, inok_int, inok_str, inok_tup, any_ints, scl_int, scl_str, scl_bl, scl_non, sizeLine, Nat.reducePow, blt_maxl, blt_minl, Int.cast_ofNat_Int, st_rexc, rx_ref, rx_nt, cmp_tt, cmn_tt, cmp_ll, cmn_ll, okD_int, okD_bl, okD_non, okD_str, okD_tup, okD_lst, okDs_nil, okDs_cons, depD_int, depD_bl, depD_non, depD_str, depD_tup, depD_lst, depDs_nil, depDs_cons, eqok_ti, eqok_li, eqok_t, eqok_l, okDs_ints, depDs_ints, eq_int, eq_bl, eq_str, eq_non, eq_tup, eq_lst, eqs_nil, eqs_nc, eqs_cn, eqs_ints, eqs_cons, Nat.max_self, Nat.zero_max, Nat.max_zero, Nat.zero_add, Nat.le_refl, Nat.zero_le, pkv_val, pkv_own, evv_val, evv_own, rtv_val, rtv_own, rd_dat, rd_slot, dm_val, dm_own, ev_var, pk_var, rt_var, pk_int, rt_int, pk_bl, rt_bl, pk_non, rt_non, pk_str, rt_str, pk_fnv, rt_fnv, pk_gint, rt_gint, pk_bin, rt_bin, pk_neg, rt_neg, pk_not, rt_not, pk_cmp, rt_cmp, pk_chn, rt_chn, pk_isn, rt_isn, pk_ntn, rt_ntn, pk_and, rt_and, pk_or, rt_or, pk_ite, rt_ite, pk_tup, rt_tup, pk_lst, rt_lst, pk_call, rt_call, pk_cio, rt_cio, pk_clv, rt_clv, pk_blt, rt_blt, pk_isi, rt_isi, pk_ix, rt_ix, pk_slc, rt_slc, pk_rev, rt_rev, pk_lrng, rt_lrng, pk_lc, rt_lc, pk_met, rt_met, S0_eq, S1_eq, S2_eq, S3_eq, S4_eq, S5_eq, S6_eq, M.isint_eq, M.iscnt_eq, M.chkcnt_eq, M.isrow_eq, M.isword_eq, M.state_eq, M.take_eq, M.great_eq, M.says_eq, M.same_eq, M.told_eq, M.allmal_eq, M.badD_eq, M.toldX_mal, M.toldX_ref, M.isI_int, M.isI_bl, M.isI_non, M.isI_str, M.isI_tup, M.isI_lst, M.cnt_i, M.cnt_bl, M.cnt_non, M.cnt_str, M.cnt_tup, M.cnt_lst, M.says_bl, M.says_int, M.says_non, M.isRow_tup, M.isRow_ints, M.isRow_int, M.isRow_bl, M.isRow_non, M.isRow_str, M.isRow_lst, M.rowOk_int, M.rowOk_bl, M.rowOk_non, M.rowOk_str, M.rowOk_lst, M.rowOk_ints, M.rowOk_tup, M.isWord_ints, M.seen_int, M.seen_bl, M.seen_str, M.seen_non, M.seen_lst, M.seen_ints, M.seen_tup, M.due_int, M.due_bl, M.due_str, M.due_non, M.due_t1, M.due_t2, M.due_t3, M.due_t4, M.due_t5, M.due_t6, M.due_l2, M.due_l3, M.due_l4, M.due_l5, M.due_l6, M.same_int, M.same_bl, M.same_str, M.same_non, M.same_tup, M.same_tlst, M.sames_nil, M.sames_cons, List.all_cons, List.all_nil, em, List.replicate_succ, List.replicate_zero, and_self, imp_self, List.any_cons, List.any_nil, Bool.or_true, Bool.true_or, Bool.or_false, Bool.false_or, Bool.or_self, Bool.and_self, Int.reduceAdd, Int.reduceSub, Int.reduceMul, Nat.reduceLeDiff, Nat.reduceLT, Nat.reduceEqDiff, Int.reduceAbs, Int.reduceToNat, Int.toNat_natCast, s_is_integer, fr_is_integer, p_is_integer, s_is_whole_row, fr_is_whole_row, p_is_whole_row, s_is_ring, fr_is_ring, p_is_ring, s_is_spot, fr_is_spot, p_is_spot, s_check_spots, fr_check_spots, p_check_spots, s_spot_plus, fr_spot_plus, p_spot_plus, s_spot_less, fr_spot_less, p_spot_less, s_spot_times, fr_spot_times, p_spot_times, s_spot_product, fr_spot_product, p_spot_product, s_spot_norm, fr_spot_norm, p_spot_norm, s_spot_turned, fr_spot_turned, p_spot_turned, s_spot_over, fr_spot_over, p_spot_over, s_spot_quotient, fr_spot_quotient, p_spot_quotient, s_is_plane_base, fr_is_plane_base, p_is_plane_base, s_plain_digits, fr_plain_digits, p_plain_digits, s_plane_step, fr_plane_step, p_plane_step, s_is_gauss_base, fr_is_gauss_base, p_is_gauss_base, s__law_state, fr__law_state, p__law_state, s__law_take, fr__law_take, p__law_take, s__law_says, fr__law_says, p__law_says, s__law_is_whole, fr__law_is_whole, p__law_is_whole, s__law_same_v, fr__law_same_v, p__law_same_v, s__law_same_0, fr__law_same_0, p__law_same_0, s__law_same_1, fr__law_same_1, p__law_same_1, s__law_same_2, fr__law_same_2, p__law_same_2, s__law_same_3, fr__law_same_3, p__law_same_3, s__law_same_4, fr__law_same_4, p__law_same_4, s__law_told, fr__law_told, p__law_told, s__law_all_malformed, fr__law_all_malformed, p__law_all_malformed, s__law_product, fr__law_product, p__law_product, s__law_norm, fr__law_norm, p__law_norm, s__law_over_spot, fr__law_over_spot, p__law_over_spot, s__law_less, fr__law_less, p__law_less, s__law_ring, fr__law_ring, p__law_ring, s__law_plane, fr__law_plane, p__law_plane, s__law_step, fr__law_step, p__law_step, s__law_spot, fr__law_spot, p__law_spot, s__law_is_spot, fr__law_is_spot, p__law_is_spot, s__law_is_base, fr__law_is_base, p__law_is_base, s_law, fr_law, p_law, v_7, v_9, v_10, v_11, v_13, v_14, v_16, sn_expr, sn_asg, sn_asgl, sn_unp, sn_par, sn_app, sn_seti, sn_tr, so_ifn]))
local macro_rules
  | `(tactic| ac_nf0) => `(tactic| ((repeat' (with_reducible refine And.intro ?_ ?_)) <;> first | omega | exact mulL (by omega) (by omega) | exact mulR (by omega) (by omega) | exact divOk (by omega) (by omega) | (with_reducible rfl) | assumption | (unfold sizeLine; omega) | (simp only [sizeLine, List.length_cons, List.length_nil, List.length_map, List.length_append]; omega) | skip))
set_option hygiene false in
local macro_rules
  | `(tactic| simp_all_arith!) => `(tactic| repeat' first | exact h1 _ _ | exact h2 _ | exact id | exact False.elim | refine And.imp ?_ ?_ | refine ite_mono ?_ ?_ | refine br_mono ?_ ?_ | (refine all_mono ?_; intro _) | (refine ex_mono ?_; intro _) | split)
theorem g__law_product : Good tx.T tx.ek f__law_product := G__law_product fun r z w P X h => by
  unfold sp__law_product sp_spot_product at h
  split at h
  · obtain ⟨ht, hn, h1, h2, hp⟩ := h
    unfold b__law_product
    simp_arith
    exact ⟨mB h1, mA hn, mB h2, mB h2, mB h1, mA ht, mB h2, hp⟩
  · exact h.elim
theorem g__law_norm : Good tx.T tx.ek f__law_norm := G__law_norm fun r z P X h => by
  unfold sp__law_norm at h
  split at h
  · obtain ⟨ht, hn, h1, h2, hp⟩ := h
    unfold b__law_norm
    simp_arith
    exact ⟨mB h1, mA ht, mB h2, mA hn, mB h2, hp⟩
  · exact h.elim
theorem g__law_less : Good tx.T tx.ek f__law_less := G__law_less fun a b P X h => by
  unfold sp__law_less sp_spot_less two at h
  split at h
  · unfold b__law_less
    simp_arith
    exact h
  · exact h.elim
theorem g__law_over_spot : Good tx.T tx.ek f__law_over_spot := G__law_over_spot fun r z w P X h => by
  unfold sp__law_over_spot sp_spot_quotient at h
  split at h
  · rename_i t n a b c d
    obtain ⟨h1, h2, h3, hp⟩ := h
    obtain ⟨r1, r2⟩ := rb h1
    obtain ⟨z1, z2⟩ := wb h2
    have hn := norm_pos h1 h3
    have dv := fun i => divB (i := i) h1 h2 h3
    have nz : norm (t, n) (c, d) ≠ 0 := by omega
    unfold b__law_over_spot
    simp_arith[sp__law_product, sp_spot_product, sp__law_norm]
    unfold quot at hp
    change P (optD (if (prod (t, n) (a, b) (c + t * d, -d)).1.fmod (norm (t, n) (c, d)) ≠ 0 ∨ (prod (t, n) (a, b) (c + t * d, -d)).2.fmod (norm (t, n) (c, d)) ≠ 0 then none else some ((prod (t, n) (a, b) (c + t * d, -d)).1.fdiv (norm (t, n) (c, d)), (prod (t, n) (a, b) (c + t * d, -d)).2.fdiv (norm (t, n) (c, d))))) .non at hp
    refine ⟨mB z2, r1, r2, (bigC h1 h2).1, (bigC h1 h2).2, r1, r2, z1, z2, nz, fun q => ⟨nz, fun q2 => ⟨dv _, dv _, ?_⟩, fun q2 => ?_⟩, fun q => ?_⟩
    · rw [if_neg (by rintro (q3 | q3) <;> contradiction)] at hp
      exact hp
    · rw [if_pos (.inr q2)] at hp
      exact hp
    · rw [if_pos (.inl q)] at hp
      exact hp
  · exact h.elim
theorem g__law_ring : Good tx.T tx.ek f__law_ring := G__law_ring fun s P X h => by
  unfold sp__law_ring st1 at h
  split at h
  · unfold b__law_ring
    simp_arith
    intro v a b v0 v1
    have : v = 0 ∨ v = 1 ∨ v = 2 ∨ v = 3 ∨ v = 4 ∨ v = 5 ∨ v = 6 := by omega
    rcases this with rfl | rfl | rfl | rfl | rfl | rfl | rfl
    all_goals exact ⟨_, rfl, h _ _ _ _ (by decide)⟩
  · exact h.elim
theorem g__law_spot : Good tx.T tx.ek f__law_spot := G__law_spot fun s P X h => by
  unfold sp__law_spot st1 at h
  split at h
  · unfold b__law_spot
    simp_arith
    intro v v0 v1
    refine ⟨fun q => ?_, fun q => ?_⟩
    all_goals
      intro x x0 x1
      refine ⟨mulL (by omega) (by omega), fun y a b y0 y1 => ⟨mulL (by omega) (by omega), h _ _ _ _ (iw (by omega) (by omega) (by omega) (by omega))⟩⟩
  · exact h.elim
theorem g__law_is_spot : Good tx.T tx.ek f__law_is_spot := G__law_is_spot fun d P X h => by
  obtain ⟨hd, hp⟩ := h
  unfold b__law_is_spot
  simp_arith
  refine ⟨hd.1, ?_⟩
  cases d with
  | tup xs =>
    simp_arith
    match xs, hd, hp with
    | [a, b], hd, hp =>
      rw [M.rowOk_tup] at hd
      simp_arith
      refine lcS_map (fun x => .bl (match x with | .int i => decide (ab i ≤ most) | _ => false)) (by show 1 < 2; decide) (by show 2 ≤ _; decide) (fun x hx k hk => ?_) ?_
      · simp_arith
        refine ⟨hd.2 x hx, ?_⟩
        cases x <;> first | (simp_arith; exact hk) | exact hk
      · simp_arith
        refine ⟨_, M.bls_map (g := fun x => match x with | .int i => decide (ab i ≤ most) | _ => false) [a, b], ?_⟩
        rw [M.all_map]
        cases a with
        | int a =>
          cases b with
          | int b => simpa [isSpot, within] using hp
          | _ => simpa [isSpot, within] using hp
        | _ => simpa [isSpot, within] using hp
    | [], hd, hp => simp_arith; exact hp
    | [a], hd, hp =>
      simp_arith
      have : isSpot (.tup [a]) = false := by cases a <;> rfl
      rw [this] at hp
      exact hp
    | a :: b :: c :: r, hd, hp =>
      simp_arith
      refine ⟨fun h => absurd h (by omega), fun _ => ?_⟩
      have : isSpot (.tup (a :: b :: c :: r)) = false := by cases a <;> cases b <;> rfl
      rw [this] at hp
      exact hp
  | _ => simpa [tyIs, isSpot, br] using hp
theorem stepF_at {r b z : Pt} : ∀ (zs : List Pt) (k : Nat), (∀ w ∈ zs, quot r (less z w) b = none) → stepF r b z k zs = .non
  | [], _, _ => rfl
  | w :: zs, k, h => by
    unfold stepF
    rw [h w List.mem_cons_self]
    exact stepF_at zs (k + 1) fun x hx => h x (List.mem_cons_of_mem _ hx)
theorem stepF_some {r b z q : Pt} : ∀ (zs : List Pt) (k i : Nat) (w : Pt), zs[i]? = some w → (∀ j < i, ∀ w, zs[j]? = some w → quot r (less z w) b = none) → quot r (less z w) b = some q → stepF r b z k zs = .tup [.int ((k + i : Nat) : Int), pt q]
  | w :: zs, k, 0, w', h, _, h2 => by
    cases h
    unfold stepF
    rw [h2]
    rfl
  | w :: zs, k, i + 1, w', h, h1, h2 => by
    unfold stepF
    rw [h1 0 (by omega) w rfl]
    rw [show k + (i + 1) = k + 1 + i by omega]
    exact stepF_some zs (k + 1) i w' h (fun j hj x hx => h1 (j + 1) (by omega) x hx) h2
theorem g__law_step : Good tx.T tx.ek f__law_step := G__law_step fun r b d z P X h => by
  obtain ⟨⟨t, n⟩, ⟨u, v⟩, ⟨x, y⟩, zs, rfl, rfl, rfl, rfl, h1, h2, h3, h4, hp⟩ := h
  unfold b__law_step
  simp_arith
  rw [List.length_map]
  unfold sizeLine at h4
  refine ⟨⟨by omega, by omega⟩, ⟨by omega, by omega⟩, ?_⟩
  refine forR_rule (fun i env => (∀ j < i, ∀ w, zs[j]? = some w → quot (t, n) (less (x, y) w) (u, v) = none) ∧ ∃ c1 c2, env = [Cl.val (pt (t, n)), Cl.val (pt (u, v)), Cl.val (D.tup (List.map pt zs)), Cl.val (pt (x, y)), c1, c2]) ⟨fun j hj => absurd hj (Nat.not_lt_zero _), _, _, rfl⟩ ?_ ?_
  · rintro i env nx hi ⟨hI, c1, c2, rfl⟩ hn
    have hi' : i < zs.length := by omega
    have hw : zs[i]? = some zs[i] := List.getElem?_eq_getElem hi'
    have hwd : (zs.map pt)[i]? = some (pt zs[i]) := by rw [List.getElem?_map, hw]; rfl
    simp_arith
    refine ⟨_, by rw [show (0 + (i : Int)) = (i : Nat) by omega]; exact atI_nat hwd, ?_⟩
    simp_arith[sp__law_less, sp_spot_less, two, sp__law_over_spot, sp_spot_quotient]
    refine ⟨h1, h2, h3, ?_⟩
    cases hq : quot (t, n) (less (x, y) zs[i]) (u, v) with
    | none =>
      simp_arith[optD]
      refine hn _ _ (.refl _ _) ⟨fun j hj w hw2 => ?_, _, _, rfl⟩
      by_cases e : j = i
      · subst e
        rw [hw] at hw2
        cases hw2
        exact hq
      · exact hI j (by omega) w hw2
    | some q =>
      simp_arith[optD]
      rw [stepF_some zs 0 i _ hw hI hq] at hp
      rw [show ((0 + i : Nat) : Int) = 0 + (i : Int) by omega] at hp
      exact hp
  · rintro env ⟨hI, c1, c2, rfl⟩
    simp_arith
    rw [stepF_at zs 0 fun w hw => by
      obtain ⟨j, hj⟩ := List.getElem?_of_mem hw
      exact hI j (by have := (List.getElem?_eq_some_iff.mp hj).1; omega) w hj] at hp
    exact hp
theorem g__law_is_base : Good tx.T tx.ek f__law_is_base := G__law_is_base fun r b d P X h => by
  obtain ⟨⟨t, n⟩, rfl, gr, hb, hd, hp⟩ := h
  unfold b__law_is_base
  simp_arith![sp__law_is_spot, sp_is_spot]
  refine ⟨hb, ?_⟩
  cases hs : isSpot b with
  | false =>
    have : baseB (t, n) b d = false := by simp [baseB, hs]
    rw [this] at hp
    exact hp
  | true =>
  obtain ⟨u, v, rfl, gb⟩ := spot_of hs
  simp_arith
  refine ⟨hd.1, ?_⟩
  cases d with
  | tup xs =>
    obtain ⟨hl, hx⟩ := hd.2 _ rfl
    simp_arith
    refine lcS_map (fun z => .bl (isSpot z)) (by show 4 < 6; decide) (by unfold sizeLine; omega) (fun d hd k hk => ?_) ?_
    · simp_arith[sp__law_is_spot, sp_is_spot]
      exact ⟨hx d hd, hk⟩
    simp_arith
    refine ⟨_, M.bls_map _, ?_⟩
    simp_arith[M.all_map]
    cases ha : xs.all isSpot with
    | false =>
      have : baseB (t, n) (.tup [.int u, .int v]) (.tup xs) = false := by simp [baseB, ha]
      rw [this] at hp
      exact hp
    | true =>
    obtain ⟨zs, rfl, hz, hzs⟩ := spots_of ha
    rw [baseB_eq (b := (u, v)) gb hz] at hp
    have hl' : zs.length ≤ 1000 := by simpa using hl
    have r1 := rb gr
    have z1 := wb gb
    rw [wN_eq]
    simp_arith!
    refine ⟨by simp; omega, ?_⟩
    rw [show zs.map pt ++ [D.tup [.int u, .int v]] = (zs ++ [(u, v)]).map pt by simp]
    refine lcS_of pt (fun z => .bl (within 100 z)) (by show 4 < 6; decide) (by simp [sizeLine]; omega) (fun d hd k hk => ?_) ?_
    · simp_arith
      have : decide ((if (if d.snd < 0 then -d.snd else d.snd) > if d.fst < 0 then -d.fst else d.fst then if d.snd < 0 then -d.snd else d.snd else if d.fst < 0 then -d.fst else d.fst) ≤ 100) = within 100 d := by
        rw [max_le]
        rfl
      rw [this]
      exact hk
    simp_arith![sp__law_norm]
    refine ⟨_, M.bls_mapf _, ?_⟩
    rw [M.all_id, List.all_append]
    simp only [List.all_cons, List.all_nil, Bool.and_true]
    unfold baseP at hp
    refine br2 (fun w100 => ?_) (fun w100 => ?_)
    case refine_2 =>
      have : (within 100 (u, v) && zs.all (within 100)) = false := by rw [Bool.and_comm]; exact w100
      rw [this] at hp
      simpa using hp
    have : (within 100 (u, v) && zs.all (within 100)) = true := by rw [Bool.and_comm]; exact w100
    rw [this, Bool.true_and] at hp
    refine ⟨r1.1, r1.2, z1.1, z1.2, fun q2 => ⟨fun q3 => ?_, fun q3 => ?d⟩, fun q2 => ?e⟩
    case d => simpa [q3] using hp
    case e => simpa [q2] using hp
    rw [wN_eq]
    simp_arith![sp__law_norm]
    rw [List.length_map]
    refine ⟨r1.1, r1.2, z1.1, z1.2, fun q4 => ⟨okDs_pts zs, br2 (fun q5 => ?_) fun q5 => ?b⟩, fun q4 => ?c⟩
    case b =>
      rw [any_pts] at q5
      rw [q5] at hp
      simpa using hp
    case c => simpa [q4] using hp
    have q5' : zs.contains (0, 0) = true := by
      rw [any_pts] at q5
      exact q5
    simp only [q3, q4, q2, q5', decide_true, Bool.true_and] at hp
    rw [wN_eq]
    simp_arith!
    refine ⟨⟨by omega, by omega⟩, ⟨by rw [List.length_map]; omega, by rw [List.length_map]; omega⟩, ?_⟩
    have hne : ¬ (u = 0 ∧ v = 0) := fun ⟨e1, e2⟩ => by
      subst e1 e2
      unfold norm at q2
      simp at q2
    have er : ∀ m : Nat, rngD 0 (m : Int) = (List.range m).map fun i => D.int (i : Nat) := fun m => by
      unfold rngD
      rw [show ((m : Int) - 0).toNat = m by omega]
      refine List.map_congr_left fun i _ => ?_
      rw [Int.zero_add]
    rw [er, List.length_map]
    refine lcS_of (fun i => D.int (i : Nat)) (fun i => .bl ((zs.take i).any fun w => !(quot (t, n) (less (zs.getD i (0, 0)) w) (u, v)).isNone)) (by show 3 < 6; decide) (by rw [List.length_range]; unfold sizeLine; omega) (fun i hi k hk => ?_) ?_
    · rw [List.mem_range] at hi
      simp_arith
      refine ⟨⟨by omega, by omega⟩, ⟨by omega, by omega⟩, ?_⟩
      rw [er]
      refine lcS_of (fun i => D.int (i : Nat)) (fun j => .bl (!(quot (t, n) (less (zs.getD i (0, 0)) (zs.getD j (0, 0))) (u, v)).isNone)) (by show 5 < 6; decide) (by rw [List.length_range]; unfold sizeLine; omega) (fun j hj k hk => ?_) ?_
      · rw [List.mem_range] at hj
        have gi : (zs.map pt)[i]? = some (pt (zs.getD i (0, 0))) := by
          rw [List.getElem?_map, List.getD_eq_getElem?_getD, List.getElem?_eq_getElem hi]; rfl
        have gj : (zs.map pt)[j]? = some (pt (zs.getD j (0, 0))) := by
          rw [List.getElem?_map, List.getD_eq_getElem?_getD, List.getElem?_eq_getElem (by omega : j < zs.length)]; rfl
        simp_arith
        refine ⟨_, atI_nat gi, _, atI_nat gj, ?_⟩
        simp_arith[sp__law_less, sp_spot_less, two, sp__law_over_spot, sp_spot_quotient]
        refine ⟨gr, gb, hne, ?_⟩
        cases hq : quot (t, n) (less (zs.getD i (0, 0)) (zs.getD j (0, 0))) (u, v) with
        | none =>
          rw [hq] at hk
          exact hk
        | some q =>
          rw [hq] at hk
          exact hk
      · simp_arith
        refine ⟨_, M.bls_mapf _, ?_⟩
        rw [M.any_id]
        have e : ((List.range i).any fun j => !(quot (t, n) (less (zs.getD i (0, 0)) (zs.getD j (0, 0))) (u, v)).isNone) = (zs.take i).any fun w => !(quot (t, n) (less (zs.getD i (0, 0)) w) (u, v)).isNone := by
          have e2 : zs.take i = (List.range i).map fun j => zs.getD j (0, 0) := by
            refine List.ext_getElem? fun j => ?_
            rw [List.getElem?_take, List.getElem?_map]
            by_cases hj : j < i
            · rw [if_pos hj, List.getElem?_range hj, List.getElem?_eq_getElem (by omega : j < zs.length)]
              simp [List.getD_eq_getElem?_getD, show j < zs.length by omega]
            · rw [if_neg hj, List.getElem?_eq_none (by simpa using hj)]
              rfl
          rw [e2, List.any_map]
          rfl
        rw [e]
        exact hk
    · simp_arith
      refine ⟨_, M.bls_mapf _, ?_⟩
      rw [M.any_id]
      have e : (!(List.range zs.length).any fun i => (zs.take i).any fun w => !(quot (t, n) (less (zs.getD i (0, 0)) w) (u, v)).isNone) = unlike (t, n) (u, v) zs := by
        unfold unlike
        rw [List.not_any_eq_all_not]
        congr 1
        funext i
        rw [List.not_any_eq_all_not]
        congr 1
        funext w
        rw [Bool.not_not]
      rw [e]
      exact hp
  | _ => simpa [tyIs, baseB, br] using hp
theorem g__law_plane : Good tx.T tx.ek f__law_plane := G__law_plane fun s r P X h => by
  unfold sp__law_plane at h
  split at h
  · obtain ⟨hr, hp⟩ := h
    rename_i a0 b0 t n
    have gr : ringN (t, n) = true := by
      simp only [rings, List.mem_cons, List.not_mem_nil, or_false, Prod.mk.injEq] at hr
      rcases hr with ⟨rfl, rfl⟩ | ⟨rfl, rfl⟩ | ⟨rfl, rfl⟩ | ⟨rfl, rfl⟩ | ⟨rfl, rfl⟩ | ⟨rfl, rfl⟩ | ⟨rfl, rfl⟩ <;> rfl
    have r1 := rb gr
    unfold b__law_plane
    simp_arith!
    refine ⟨⟨by omega, by omega⟩, ⟨by omega, by omega⟩, ?_⟩
    refine forR_ru (fun _ env => ∃ a b c2 c3 c4 c5 c6 c7, env = [Cl.own (D.lst [D.int a, D.int b]), Cl.val (D.tup [D.int t, D.int n]), c2, c3, c4, c5, c6, c7, .emp, .emp]) ⟨_, _, _, _, _, _, _, _, rfl⟩ ?_ ?_
    · rintro k env nx hk ⟨a, b, c2, c3, c4, c5, c6, c7, rfl⟩ hn
      simp_arith!
      intro u u0 u1 v a b v0 v1
      simp_all_arith
      simp_arith![sp__law_norm]
      refine ⟨r1.1, r1.2, ⟨by omega, by omega⟩, ⟨by omega, by omega⟩, ?_⟩
      rw [wN_eq]
      simp_arith!
      have fin : ∀ c5 c6 c7 a b, nx [Cl.own (D.lst [D.int a, D.int b]), Cl.val (D.tup [D.int t, D.int n]), Cl.val (D.int (0 + k)), Cl.val (D.tup [D.int (u - 4), D.int (v - 3)]), Cl.val (D.int (norm (t, n) (u - 4, v - 3))), c5, c6, c7, .emp, .emp] := fun c5 c6 c7 a b => hn _ ⟨_, _, _, _, _, _, _, _, rfl⟩
      have gb : within 5 (u - 4, v - 3) = true := iw (by omega) (by omega) (by omega) (by omega)
      have gb' : within most (u - 4, v - 3) = true := by unfold most; exact iw (by omega) (by omega) (by omega) (by omega)
      generalize hN : norm (t, n) (u - 4, v - 3) = N at fin ⊢
      refine ⟨fun h1 => ⟨fun h2 => ?_, fun h2 => ?_⟩, fun h1 => ?_⟩
      case refine_2 => simp_all_arith; exact fin _ _ _ _ _
      case refine_3 => simp_all_arith; exact fin _ _ _ _ _
      simp_all_arith
      refine ⟨⟨by omega, by omega⟩, ⟨by omega, by omega⟩, ?_⟩
      refine lcS_rule (fun m acc env => (∃ zs : List Pt, acc = zs.map pt ∧ zs.length = m ∧ ∀ z ∈ zs, within 13 z = true) ∧ ∃ a b c8, env = [Cl.own (D.lst [D.int a, D.int b]), Cl.val (D.tup [D.int t, D.int n]), Cl.val (D.int (0 + k)), Cl.val (D.tup [D.int (u - 4), D.int (v - 3)]), Cl.val (D.int N), Cl.own (D.lst [D.tup [D.int 0, D.int 0]]), c6, c7, c8, .emp]) ⟨⟨[], rfl, rfl, fun z h => by cases h⟩, _, _, _, rfl⟩ (by decide) (fun i acc env h => by obtain ⟨⟨zs, rfl, h, _⟩, _⟩ := h; rw [List.length_map]; exact h) ?_ ?_
      · rintro m d acc env kk hd ⟨⟨zs, rfl, hl, hz⟩, a, b, c8, rfl⟩ hk
        simp_arith[wipeC]
        intro x x0 x1 y a b y0 y1
        refine hk _ _ ⟨⟨zs ++ [(x - 3, y - 3)], by simp, by simp; omega, fun z hz' => ?_⟩, _, _, _, rfl⟩
        rcases List.mem_append.mp hz' with h | h
        · exact hz z h
        · rw [List.mem_singleton.mp h]
          exact iw (by omega) (by omega) (by omega) (by omega)
      rintro acc env ⟨⟨zs1, rfl, hl1, hz1⟩, a, b, c8, rfl⟩
      simp_arith[wipeC, backC]
      refine ⟨⟨by omega, by omega⟩, ⟨by omega, by omega⟩, ?_⟩
      refine lcS_map (fun d => match d with | .int k => pt (k.fdiv 27 - 13, k.fmod 27 - 13) | d => d) (by show 8 < 10; decide) (by rw [rng_len]; decide) (fun d hd kk hk => ?_) ?_
      · obtain ⟨i, hi, rfl⟩ := M.rng0_mem (n := 729) hd
        simp_arith
        exact ⟨divOk (by omega) (by omega), hk⟩
      obtain ⟨zs2, e2, hl2, hz2⟩ : ∃ zs : List Pt, (rngD 0 729).map (fun d => match d with | .int k => pt (k.fdiv 27 - 13, k.fmod 27 - 13) | d => d) = zs.map pt ∧ zs.length = 729 ∧ ∀ z ∈ zs, within 13 z = true := by
        refine ⟨(List.range 729).map fun i => (((i : Nat) : Int).fdiv 27 - 13, ((i : Nat) : Int).fmod 27 - 13), ?_, by simp, fun z hz => ?_⟩
        · unfold rngD
          rw [List.map_map, List.map_map]
          refine List.map_congr_left fun i _ => ?_
          simp
        · obtain ⟨i, hi, rfl⟩ := List.mem_map.mp hz
          rw [List.mem_range] at hi
          rw [Int.fdiv_eq_ediv_of_nonneg _ (by omega), Int.fmod_eq_emod_of_nonneg _ (by omega)]
          exact iw (by omega) (by omega) (by omega) (by omega)
      rw [e2]
      simp_arith!
      have hl1' : zs1.length = 8 := by rw [hl1, rng_len]; rfl
      refine ⟨by simp; omega, ?_⟩
      rw [← List.map_append]
      have hz12 : ∀ z ∈ zs1 ++ zs2, within 13 z = true := fun z h => (List.mem_append.mp h).elim (hz1 z) (hz2 z)
      generalize zs1 ++ zs2 = zs at hz12
      refine forS_ru (fun _ env => ∃ (ds : List Pt) (c6 c7 : Cl), (ds.length : Int) ≤ N ∧ 1 ≤ ds.length ∧ (∀ z ∈ ds, within 13 z = true) ∧ env = [Cl.own (D.lst [D.int a, D.int b]), Cl.val (D.tup [D.int t, D.int n]), Cl.val (D.int (0 + k)), Cl.val (D.tup [D.int (u - 4), D.int (v - 3)]), Cl.val (D.int N), Cl.own (D.lst (ds.map pt)), c6, c7, .emp, .emp]) ⟨[(0, 0)], _, _, by simp; omega, by decide, by decide, rfl⟩ ?_ ?_
      · rintro i d env nx2 hd ⟨ds, c6, c7, hl, hl0, hz, rfl⟩ hn2
        rw [List.getElem?_map] at hd
        cases hz' : zs[i]? with
        | none => rw [hz'] at hd; cases hd
        | some z =>
        rw [hz'] at hd
        cases hd
        have hzw := hz12 z (List.mem_of_getElem? hz')
        simp_arith
        refine ⟨fun q => ?_, fun q => ?_⟩
        case refine_2 => exact hn2 _ ⟨ds, _, _, hl, hl0, hz, rfl⟩
        refine lcS_of pt (fun w => .bl (!(quot (t, n) (less z w) (u - 4, v - 3)).isNone)) (by show 9 < 10; decide) (by unfold sizeLine; omega) (fun w hw kk hk => ?_) ?_
        · simp_arith[sp__law_less, sp_spot_less, two, sp__law_over_spot, sp_spot_quotient]
          refine ⟨gr, gb', fun ⟨e1, e2⟩ => ?_, ?_⟩
          · rw [e1, e2] at hN
            unfold norm at hN
            simp at hN
            omega
          · cases hq : quot (t, n) (less (z.1, z.2) (w.1, w.2)) (u - 4, v - 3) with
            | none =>
              simp only [hq] at hk
              exact hk
            | some q =>
              simp only [hq] at hk
              exact hk
        simp_arith
        refine ⟨_, M.bls_mapf _, ?_⟩
        refine br2 (fun q2 => ?_) (fun q2 => ?_)
        · exact hn2 _ ⟨ds, _, _, hl, hl0, hz, rfl⟩
        · refine ⟨by simp at q ⊢; omega, hn2 _ ⟨ds ++ [z], _, _, by simp at q ⊢; omega, by simp, fun x hx => ?_, by rw [List.map_append]; rfl⟩⟩
          rcases List.mem_append.mp hx with h | h
          · exact hz x h
          · rw [List.mem_singleton.mp h]
            exact hzw
      · rintro env ⟨ds, c6, c7, hl, hl0, hz, rfl⟩
        have last : ∀ ds : List Pt, (∀ z ∈ ds, within 13 z = true) → ∀ a b, ((ds.map pt).length : Int) = N → P (D.tup [D.tup [D.int (u - 4), D.int (v - 3)], D.tup (List.map pt ds)]) (D.lst [D.int a, D.int b]) := fun ds hz a b q => by
          rw [List.length_map] at q
          exact hp _ _ ds _ _ gb (by rw [hN]; exact h1) (by rw [hN]; exact h2) (by omega) (by omega) fun z h => by
            have := wi (hz z h)
            exact iw (by omega) (by omega) (by omega) (by omega)
        have lst2 : ∃ es : List Pt, cutD (ds.map pt) (some 1) none ++ cutD (ds.map pt) none (some 1) = es.map pt ∧ es.length = ds.length ∧ ∀ z ∈ es, within 13 z = true := by
          refine ⟨ds.drop 1 ++ ds.take 1, ?_, ?_, fun z h => ?_⟩
          · rw [cut_from (by omega), cut_to (by omega), List.map_append, List.map_drop, List.map_take]
            rfl
          · rw [List.length_append, List.length_drop, List.length_take]; omega
          · rcases List.mem_append.mp h with h | h
            · exact hz z (List.mem_of_mem_drop h)
            · exact hz z (List.mem_of_mem_take h)
        obtain ⟨es, he, hel, hez⟩ := lst2
        simp_all_arith
        intro x a b x0 x1
        refine ⟨fun q => ⟨?_, ?_⟩, fun q => ?_⟩
        · rw [← List.length_append, he, List.length_map]
          omega
        · rw [he, wN_eq]
          simp_arith
          rw [wN_eq]
          simp_arith
          refine ⟨fun q => last es hez _ _ q, fun q => ?_⟩
          first | exact fin _ _ _ _ _ | (rw [wN_eq]; simp_arith; exact fin _ _ _ _ _)
        · rw [wN_eq]
          simp_arith
          refine ⟨fun q => last ds hz _ _ q, fun q => ?_⟩
          first | exact fin _ _ _ _ _ | (rw [wN_eq]; simp_arith; exact fin _ _ _ _ _)
    · rintro env ⟨a, b, c2, c3, c4, c5, c6, c7, rfl⟩
      rw [wN_eq]
      simp_arith
      refine ⟨fun q => ?_, fun q => ?_⟩
      · obtain ⟨rfl, rfl⟩ := q
        exact hp (-1) 1 [(0, 0), (1, 0)] _ _ rfl (by decide) (by decide) (by decide) (by decide) (by decide)
      · have e : norm (t, n) (-2, 0) = 4 := by unfold norm; simp
        exact hp (-2) 0 [(0, 0), (1, 0), (0, 1), (1, 1)] _ _ rfl (by rw [e]; decide) (by rw [e]; decide) (by decide) (by decide) (by decide)
  · exact h.elim
end Pd.K42

set_option pp.maxSteps 900
/-! k42: the law. -/
namespace Pd.K42
open L2 PyProof.Rows PySem.Spec PySem
local macro_rules
  | `(tactic| simp_arith [$ts,*]) => `(tactic| simp only [st_for, st_nil, st_expr, st_asg, st_asgl, st_unp, st_par, st_app, st_seti, st_ret, st_retn, st_brk, st_cnt, st_rmal, st_tr, e_int, e_bl, e_non, e_str, e_fnv, e_gint, e_bin, e_neg, e_cmp, e_isn, e_ntn, e_and, e_or, e_tup, e_lst, e_call, e_cio, e_clv, e_blt, e_isi, e_ix, e_slc, e_rev, e_lrng, e_lc, e_met, wA, wP, wT, kpN_sow, kpN_seq, kpN_rng, kpN_zip, kpN_enm, i_rng, i_seq, i_zip, i_enm, wCs, wHnd, at_, put, putAll, putCs, wTgt, rng_1, rng_2, zip_tt, zip_ll, enm_t, enm_l, cellOf, frE, frF, frB, isOwn, isOwnL, List.getElem?_cons_zero, List.getElem?_cons_succ, List.getElem?_nil, Option.getD_some, Option.getD_none, List.set_cons_zero, List.set_cons_succ, ne_eq, reduceCtorEq, not_false_eq_true, not_true_eq_false, true_and, and_true, if_true, if_false, ite_true, ite_false, Bool.false_eq_true, Bool.true_eq_false, Bool.true_and, Bool.and_true, Bool.false_and, Bool.and_false, Bool.not_true, Bool.not_false, false_implies, true_implies, forall_const, implies_true, bin_add, bin_sub, bin_mul, bin_fdiv, bin_mod, bin_adds, bin_addt, bin_addl, bin_mull, bin_mult, cmp_lt, cmp_le, cmp_gt, cmp_ge, cmp_eqi, cmp_nei, cmp_eqb, cmp_eqs, tru_bl, tru_int, tru_non, tru_tup, tru_lst, tru_frz, ix_tup, len_tup, tpl_tup, lsl_tup, slc_tup, seq_tup, ix_lst, len_lst, tpl_lst, lsl_lst, slc_lst, seq_lst, ix_frz, len_frz, tpl_frz, lsl_frz, slc_frz, seq_frz, len_str, blt_abs, blt_int, blt_intb, blt_max, blt_min, blt_str, blt_all, blt_any, blt_sum, opt_0, opt_1, atI_0, atI_1, atI_2, atI_3, atI_4, ixN_20, ixN_21, ty_bl_int, ty_bl_bool, ty_bl_str, ty_bl_tuple, ty_bl_list, ht_bl, nn_bl, mu_bl, ty_int_int, ty_int_bool, ty_int_str, ty_int_tuple, ty_int_list, ht_int, nn_int, mu_int, ty_str_int, ty_str_bool, ty_str_str, ty_str_tuple, ty_str_list, ht_str, nn_str, mu_str, ty_tup_int, ty_tup_bool, ty_tup_str, ty_tup_tuple, ty_tup_list, ht_tup, nn_tup, mu_tup, ty_lst_int, ty_lst_bool, ty_lst_str, ty_lst_tuple, ty_lst_list, ht_lst, nn_lst, mu_lst, ty_frz_int, ty_frz_bool, ty_frz_str, ty_frz_tuple, ty_frz_list, ht_frz, nn_frz, mu_frz, ty_non_int, ty_non_bool, ty_non_str, ty_non_tuple, ty_non_list, ht_non, nn_non, mu_non, List.map_cons, List.map_nil, exists_eq_left', decide_eq_true_eq, exists_eq_left, List.length_cons, List.length_nil, Nat.reduceAdd, Int.reduceEq, Int.reduceLT, Int.reduceLE, Int.reduceNeg, decide_true, decide_false, Cl.own.injEq, D.tup.injEq, List.mem_cons, List.not_mem_nil, or_false, forall_eq_or_imp, forall_eq, Option.some.injEq, List.cons_append, List.nil_append, gt_iff_lt, ge_iff_le, Int.reduceNegSucc, strOk_digits, strOk_zero, strOk_told, strOk_refused, strOk_malformed, i_sow, sw_val, sw_own, br_t, br_f, br_not, br_dec, br_beq, beq_iff_eq, br_and, br_or, br_same, bb_bl, so_ife, eo_ite, eo_chn, eo_not, and_1, and_2, or_1, or_2, ta_n, ta_c, to_n, to_c, cmp_in, cmp_nin, inok_i, inok_int, inok_str, inok_tup, any_ints, scl_int, scl_str, scl_bl, scl_non, sizeLine, Nat.reducePow, blt_maxl, blt_minl, Int.cast_ofNat_Int, st_rexc, rx_ref, rx_nt, cmp_tt, cmn_tt, cmp_ll, cmn_ll, okD_int, okD_bl, okD_non, okD_str, okD_tup, okD_lst, okDs_nil, okDs_cons, depD_int, depD_bl, depD_non, depD_str, depD_tup, depD_lst, depDs_nil, depDs_cons, eqok_ti, eqok_li, eqok_t, eqok_l, okDs_ints, depDs_ints, eq_int, eq_bl, eq_str, eq_non, eq_tup, eq_lst, eqs_nil, eqs_nc, eqs_cn, eqs_ints, eqs_cons, Nat.max_self, Nat.zero_max, Nat.max_zero, Nat.zero_add, Nat.le_refl, Nat.zero_le, pkv_val, pkv_own, evv_val, evv_own, rtv_val, rtv_own, rd_dat, rd_slot, dm_val, dm_own, ev_var, pk_var, rt_var, pk_int, rt_int, pk_bl, rt_bl, pk_non, rt_non, pk_str, rt_str, pk_fnv, rt_fnv, pk_gint, rt_gint, pk_bin, rt_bin, pk_neg, rt_neg, pk_not, rt_not, pk_cmp, rt_cmp, pk_chn, rt_chn, pk_isn, rt_isn, pk_ntn, rt_ntn, pk_and, rt_and, pk_or, rt_or, pk_ite, rt_ite, pk_tup, rt_tup, pk_lst, rt_lst, pk_call, rt_call, pk_cio, rt_cio, pk_clv, rt_clv, pk_blt, rt_blt, pk_isi, rt_isi, pk_ix, rt_ix, pk_slc, rt_slc, pk_rev, rt_rev, pk_lrng, rt_lrng, pk_lc, rt_lc, pk_met, rt_met, S0_eq, S1_eq, S2_eq, S3_eq, S4_eq, S5_eq, S6_eq, M.isint_eq, M.iscnt_eq, M.chkcnt_eq, M.isrow_eq, M.isword_eq, M.state_eq, M.take_eq, M.great_eq, M.says_eq, M.same_eq, M.told_eq, M.allmal_eq, M.badD_eq, M.toldX_mal, M.toldX_ref, M.isI_int, M.isI_bl, M.isI_non, M.isI_str, M.isI_tup, M.isI_lst, M.cnt_i, M.cnt_bl, M.cnt_non, M.cnt_str, M.cnt_tup, M.cnt_lst, M.says_bl, M.says_int, M.says_non, M.isRow_tup, M.isRow_ints, M.isRow_int, M.isRow_bl, M.isRow_non, M.isRow_str, M.isRow_lst, M.rowOk_int, M.rowOk_bl, M.rowOk_non, M.rowOk_str, M.rowOk_lst, M.rowOk_ints, M.rowOk_tup, M.isWord_ints, M.seen_int, M.seen_bl, M.seen_str, M.seen_non, M.seen_lst, M.seen_ints, M.seen_tup, M.due_int, M.due_bl, M.due_str, M.due_non, M.due_t1, M.due_t2, M.due_t3, M.due_t4, M.due_t5, M.due_t6, M.due_l2, M.due_l3, M.due_l4, M.due_l5, M.due_l6, M.same_int, M.same_bl, M.same_str, M.same_non, M.same_tup, M.same_tlst, M.sames_nil, M.sames_cons, List.all_cons, List.all_nil, em, List.replicate_succ, List.replicate_zero, and_self, imp_self, List.any_cons, List.any_nil, Bool.or_true, Bool.true_or, Bool.or_false, Bool.false_or, Bool.or_self, Bool.and_self, Int.reduceAdd, Int.reduceSub, Int.reduceMul, Nat.reduceLeDiff, Nat.reduceLT, Nat.reduceEqDiff, Int.reduceAbs, Int.reduceToNat, Int.toNat_natCast, s_is_integer, fr_is_integer, p_is_integer, s_is_whole_row, fr_is_whole_row, p_is_whole_row, s_is_ring, fr_is_ring, p_is_ring, s_is_spot, fr_is_spot, p_is_spot, s_check_spots, fr_check_spots, p_check_spots, s_spot_plus, fr_spot_plus, p_spot_plus, s_spot_less, fr_spot_less, p_spot_less, s_spot_times, fr_spot_times, p_spot_times, s_spot_product, fr_spot_product, p_spot_product, s_spot_norm, fr_spot_norm, p_spot_norm, s_spot_turned, fr_spot_turned, p_spot_turned, s_spot_over, fr_spot_over, p_spot_over, s_spot_quotient, fr_spot_quotient, p_spot_quotient, s_is_plane_base, fr_is_plane_base, p_is_plane_base, s_plain_digits, fr_plain_digits, p_plain_digits, s_plane_step, fr_plane_step, p_plane_step, s_is_gauss_base, fr_is_gauss_base, p_is_gauss_base, s__law_state, fr__law_state, p__law_state, s__law_take, fr__law_take, p__law_take, s__law_says, fr__law_says, p__law_says, s__law_is_whole, fr__law_is_whole, p__law_is_whole, s__law_same_v, fr__law_same_v, p__law_same_v, s__law_same_0, fr__law_same_0, p__law_same_0, s__law_same_1, fr__law_same_1, p__law_same_1, s__law_same_2, fr__law_same_2, p__law_same_2, s__law_same_3, fr__law_same_3, p__law_same_3, s__law_same_4, fr__law_same_4, p__law_same_4, s__law_told, fr__law_told, p__law_told, s__law_all_malformed, fr__law_all_malformed, p__law_all_malformed, s__law_product, fr__law_product, p__law_product, s__law_norm, fr__law_norm, p__law_norm, s__law_over_spot, fr__law_over_spot, p__law_over_spot, s__law_less, fr__law_less, p__law_less, s__law_ring, fr__law_ring, p__law_ring, s__law_plane, fr__law_plane, p__law_plane, s__law_step, fr__law_step, p__law_step, s__law_spot, fr__law_spot, p__law_spot, s__law_is_spot, fr__law_is_spot, p__law_is_spot, s__law_is_base, fr__law_is_base, p__law_is_base, s_law, fr_law, p_law, v_7, v_9, v_10, v_11, v_13, v_14, v_16, $ts,*])
  | `(tactic| simp_arith) => `(tactic| simp only [st_for, st_nil, st_expr, st_asg, st_asgl, st_unp, st_par, st_app, st_seti, st_ret, st_retn, st_brk, st_cnt, st_rmal, st_tr, e_int, e_bl, e_non, e_str, e_fnv, e_gint, e_bin, e_neg, e_cmp, e_isn, e_ntn, e_and, e_or, e_tup, e_lst, e_call, e_cio, e_clv, e_blt, e_isi, e_ix, e_slc, e_rev, e_lrng, e_lc, e_met, wA, wP, wT, kpN_sow, kpN_seq, kpN_rng, kpN_zip, kpN_enm, i_rng, i_seq, i_zip, i_enm, wCs, wHnd, at_, put, putAll, putCs, wTgt, rng_1, rng_2, zip_tt, zip_ll, enm_t, enm_l, cellOf, frE, frF, frB, isOwn, isOwnL, List.getElem?_cons_zero, List.getElem?_cons_succ, List.getElem?_nil, Option.getD_some, Option.getD_none, List.set_cons_zero, List.set_cons_succ, ne_eq, reduceCtorEq, not_false_eq_true, not_true_eq_false, true_and, and_true, if_true, if_false, ite_true, ite_false, Bool.false_eq_true, Bool.true_eq_false, Bool.true_and, Bool.and_true, Bool.false_and, Bool.and_false, Bool.not_true, Bool.not_false, false_implies, true_implies, forall_const, implies_true, bin_add, bin_sub, bin_mul, bin_fdiv, bin_mod, bin_adds, bin_addt, bin_addl, bin_mull, bin_mult, cmp_lt, cmp_le, cmp_gt, cmp_ge, cmp_eqi, cmp_nei, cmp_eqb, cmp_eqs, tru_bl, tru_int, tru_non, tru_tup, tru_lst, tru_frz, ix_tup, len_tup, tpl_tup, lsl_tup, slc_tup, seq_tup, ix_lst, len_lst, tpl_lst, lsl_lst, slc_lst, seq_lst, ix_frz, len_frz, tpl_frz, lsl_frz, slc_frz, seq_frz, len_str, blt_abs, blt_int, blt_intb, blt_max, blt_min, blt_str, blt_all, blt_any, blt_sum, opt_0, opt_1, atI_0, atI_1, atI_2, atI_3, atI_4, ixN_20, ixN_21, ty_bl_int, ty_bl_bool, ty_bl_str, ty_bl_tuple, ty_bl_list, ht_bl, nn_bl, mu_bl, ty_int_int, ty_int_bool, ty_int_str, ty_int_tuple, ty_int_list, ht_int, nn_int, mu_int, ty_str_int, ty_str_bool, ty_str_str, ty_str_tuple, ty_str_list, ht_str, nn_str, mu_str, ty_tup_int, ty_tup_bool, ty_tup_str, ty_tup_tuple, ty_tup_list, ht_tup, nn_tup, mu_tup, ty_lst_int, ty_lst_bool, ty_lst_str, ty_lst_tuple, ty_lst_list, ht_lst, nn_lst, mu_lst, ty_frz_int, ty_frz_bool, ty_frz_str, ty_frz_tuple, ty_frz_list, ht_frz, nn_frz, mu_frz, ty_non_int, ty_non_bool, ty_non_str, ty_non_tuple, ty_non_list, ht_non, nn_non, mu_non, List.map_cons, List.map_nil, exists_eq_left', decide_eq_true_eq, exists_eq_left, List.length_cons, List.length_nil, Nat.reduceAdd, Int.reduceEq, Int.reduceLT, Int.reduceLE, Int.reduceNeg, decide_true, decide_false, Cl.own.injEq, D.tup.injEq, List.mem_cons, List.not_mem_nil, or_false, forall_eq_or_imp, forall_eq, Option.some.injEq, List.cons_append, List.nil_append, gt_iff_lt, ge_iff_le, Int.reduceNegSucc, strOk_digits, strOk_zero, strOk_told, strOk_refused, strOk_malformed, i_sow, sw_val, sw_own, br_t, br_f, br_not, br_dec, br_beq, beq_iff_eq, br_and, br_or, br_same, bb_bl, so_ife, eo_ite, eo_chn, eo_not, and_1, and_2, or_1, or_2, ta_n, ta_c, to_n, to_c, cmp_in, cmp_nin, inok_i, inok_int, inok_str, inok_tup, any_ints, scl_int, scl_str, scl_bl, scl_non, sizeLine, Nat.reducePow, blt_maxl, blt_minl, Int.cast_ofNat_Int, st_rexc, rx_ref, rx_nt, cmp_tt, cmn_tt, cmp_ll, cmn_ll, okD_int, okD_bl, okD_non, okD_str, okD_tup, okD_lst, okDs_nil, okDs_cons, depD_int, depD_bl, depD_non, depD_str, depD_tup, depD_lst, depDs_nil, depDs_cons, eqok_ti, eqok_li, eqok_t, eqok_l, okDs_ints, depDs_ints, eq_int, eq_bl, eq_str, eq_non, eq_tup, eq_lst, eqs_nil, eqs_nc, eqs_cn, eqs_ints, eqs_cons, Nat.max_self, Nat.zero_max, Nat.max_zero, Nat.zero_add, Nat.le_refl, Nat.zero_le, pkv_val, pkv_own, evv_val, evv_own, rtv_val, rtv_own, rd_dat, rd_slot, dm_val, dm_own, ev_var, pk_var, rt_var, pk_int, rt_int, pk_bl, rt_bl, pk_non, rt_non, pk_str, rt_str, pk_fnv, rt_fnv, pk_gint, rt_gint, pk_bin, rt_bin, pk_neg, rt_neg, pk_not, rt_not, pk_cmp, rt_cmp, pk_chn, rt_chn, pk_isn, rt_isn, pk_ntn, rt_ntn, pk_and, rt_and, pk_or, rt_or, pk_ite, rt_ite, pk_tup, rt_tup, pk_lst, rt_lst, pk_call, rt_call, pk_cio, rt_cio, pk_clv, rt_clv, pk_blt, rt_blt, pk_isi, rt_isi, pk_ix, rt_ix, pk_slc, rt_slc, pk_rev, rt_rev, pk_lrng, rt_lrng, pk_lc, rt_lc, pk_met, rt_met, S0_eq, S1_eq, S2_eq, S3_eq, S4_eq, S5_eq, S6_eq, M.isint_eq, M.iscnt_eq, M.chkcnt_eq, M.isrow_eq, M.isword_eq, M.state_eq, M.take_eq, M.great_eq, M.says_eq, M.same_eq, M.told_eq, M.allmal_eq, M.badD_eq, M.toldX_mal, M.toldX_ref, M.isI_int, M.isI_bl, M.isI_non, M.isI_str, M.isI_tup, M.isI_lst, M.cnt_i, M.cnt_bl, M.cnt_non, M.cnt_str, M.cnt_tup, M.cnt_lst, M.says_bl, M.says_int, M.says_non, M.isRow_tup, M.isRow_ints, M.isRow_int, M.isRow_bl, M.isRow_non, M.isRow_str, M.isRow_lst, M.rowOk_int, M.rowOk_bl, M.rowOk_non, M.rowOk_str, M.rowOk_lst, M.rowOk_ints, M.rowOk_tup, M.isWord_ints, M.seen_int, M.seen_bl, M.seen_str, M.seen_non, M.seen_lst, M.seen_ints, M.seen_tup, M.due_int, M.due_bl, M.due_str, M.due_non, M.due_t1, M.due_t2, M.due_t3, M.due_t4, M.due_t5, M.due_t6, M.due_l2, M.due_l3, M.due_l4, M.due_l5, M.due_l6, M.same_int, M.same_bl, M.same_str, M.same_non, M.same_tup, M.same_tlst, M.sames_nil, M.sames_cons, List.all_cons, List.all_nil, em, List.replicate_succ, List.replicate_zero, and_self, imp_self, List.any_cons, List.any_nil, Bool.or_true, Bool.true_or, Bool.or_false, Bool.false_or, Bool.or_self, Bool.and_self, Int.reduceAdd, Int.reduceSub, Int.reduceMul, Nat.reduceLeDiff, Nat.reduceLT, Nat.reduceEqDiff, Int.reduceAbs, Int.reduceToNat, Int.toNat_natCast, s_is_integer, fr_is_integer, p_is_integer, s_is_whole_row, fr_is_whole_row, p_is_whole_row, s_is_ring, fr_is_ring, p_is_ring, s_is_spot, fr_is_spot, p_is_spot, s_check_spots, fr_check_spots, p_check_spots, s_spot_plus, fr_spot_plus, p_spot_plus, s_spot_less, fr_spot_less, p_spot_less, s_spot_times, fr_spot_times, p_spot_times, s_spot_product, fr_spot_product, p_spot_product, s_spot_norm, fr_spot_norm, p_spot_norm, s_spot_turned, fr_spot_turned, p_spot_turned, s_spot_over, fr_spot_over, p_spot_over, s_spot_quotient, fr_spot_quotient, p_spot_quotient, s_is_plane_base, fr_is_plane_base, p_is_plane_base, s_plain_digits, fr_plain_digits, p_plain_digits, s_plane_step, fr_plane_step, p_plane_step, s_is_gauss_base, fr_is_gauss_base, p_is_gauss_base, s__law_state, fr__law_state, p__law_state, s__law_take, fr__law_take, p__law_take, s__law_says, fr__law_says, p__law_says, s__law_is_whole, fr__law_is_whole, p__law_is_whole, s__law_same_v, fr__law_same_v, p__law_same_v, s__law_same_0, fr__law_same_0, p__law_same_0, s__law_same_1, fr__law_same_1, p__law_same_1, s__law_same_2, fr__law_same_2, p__law_same_2, s__law_same_3, fr__law_same_3, p__law_same_3, s__law_same_4, fr__law_same_4, p__law_same_4, s__law_told, fr__law_told, p__law_told, s__law_all_malformed, fr__law_all_malformed, p__law_all_malformed, s__law_product, fr__law_product, p__law_product, s__law_norm, fr__law_norm, p__law_norm, s__law_over_spot, fr__law_over_spot, p__law_over_spot, s__law_less, fr__law_less, p__law_less, s__law_ring, fr__law_ring, p__law_ring, s__law_plane, fr__law_plane, p__law_plane, s__law_step, fr__law_step, p__law_step, s__law_spot, fr__law_spot, p__law_spot, s__law_is_spot, fr__law_is_spot, p__law_is_spot, s__law_is_base, fr__law_is_base, p__law_is_base, s_law, fr_law, p_law, v_7, v_9, v_10, v_11, v_13, v_14, v_16])
local macro_rules
  | `(tactic| simp_arith! [$ts,*]) => `(tactic| simp only [st_for, st_nil, st_ret, st_retn, st_brk, st_cnt, st_rmal, e_int, e_bl, e_non, e_str, e_fnv, e_gint, e_bin, e_neg, e_cmp, e_isn, e_ntn, e_and, e_or, e_tup, e_lst, e_call, e_cio, e_clv, e_blt, e_isi, e_ix, e_slc, e_rev, e_lrng, e_lc, e_met, wA, wP, wT, kpN_sow, kpN_seq, kpN_rng, kpN_zip, kpN_enm, i_rng, i_seq, i_zip, i_enm, wCs, wHnd, at_, put, putAll, putCs, wTgt, rng_1, rng_2, zip_tt, zip_ll, enm_t, enm_l, cellOf, frE, frF, frB, isOwn, isOwnL, List.getElem?_cons_zero, List.getElem?_cons_succ, List.getElem?_nil, Option.getD_some, Option.getD_none, List.set_cons_zero, List.set_cons_succ, ne_eq, reduceCtorEq, not_false_eq_true, not_true_eq_false, true_and, and_true, if_true, if_false, ite_true, ite_false, Bool.false_eq_true, Bool.true_eq_false, Bool.true_and, Bool.and_true, Bool.false_and, Bool.and_false, Bool.not_true, Bool.not_false, false_implies, true_implies, forall_const, implies_true, bin_add, bin_sub, bin_mul, bin_fdiv, bin_mod, bin_adds, bin_addt, bin_addl, bin_mull, bin_mult, cmp_lt, cmp_le, cmp_gt, cmp_ge, cmp_eqi, cmp_nei, cmp_eqb, cmp_eqs, tru_bl, tru_int, tru_non, tru_tup, tru_lst, tru_frz, ix_tup, len_tup, tpl_tup, lsl_tup, slc_tup, seq_tup, ix_lst, len_lst, tpl_lst, lsl_lst, slc_lst, seq_lst, ix_frz, len_frz, tpl_frz, lsl_frz, slc_frz, seq_frz, len_str, blt_abs, blt_int, blt_intb, blt_max, blt_min, blt_str, blt_all, blt_any, blt_sum, opt_0, opt_1, atI_0, atI_1, atI_2, atI_3, atI_4, ixN_20, ixN_21, ty_bl_int, ty_bl_bool, ty_bl_str, ty_bl_tuple, ty_bl_list, ht_bl, nn_bl, mu_bl, ty_int_int, ty_int_bool, ty_int_str, ty_int_tuple, ty_int_list, ht_int, nn_int, mu_int, ty_str_int, ty_str_bool, ty_str_str, ty_str_tuple, ty_str_list, ht_str, nn_str, mu_str, ty_tup_int, ty_tup_bool, ty_tup_str, ty_tup_tuple, ty_tup_list, ht_tup, nn_tup, mu_tup, ty_lst_int, ty_lst_bool, ty_lst_str, ty_lst_tuple, ty_lst_list, ht_lst, nn_lst, mu_lst, ty_frz_int, ty_frz_bool, ty_frz_str, ty_frz_tuple, ty_frz_list, ht_frz, nn_frz, mu_frz, ty_non_int, ty_non_bool, ty_non_str, ty_non_tuple, ty_non_list, ht_non, nn_non, mu_non, List.map_cons, List.map_nil, exists_eq_left', decide_eq_true_eq, exists_eq_left, List.length_cons, List.length_nil, Nat.reduceAdd, Int.reduceEq, Int.reduceLT, Int.reduceLE, Int.reduceNeg, decide_true, decide_false, Cl.own.injEq, D.tup.injEq, List.mem_cons, List.not_mem_nil, or_false, forall_eq_or_imp, forall_eq, Option.some.injEq, List.cons_append, List.nil_append, gt_iff_lt, ge_iff_le, Int.reduceNegSucc, strOk_digits, strOk_zero, strOk_told, strOk_refused, strOk_malformed, i_sow, sw_val, sw_own, br_t, br_f, br_not, br_dec, br_beq, beq_iff_eq, br_and, br_or, br_same, bb_bl, eo_ite, eo_chn, eo_not, and_1, and_2, or_1, or_2, ta_n, ta_c, to_n, to_c, cmp_in, cmp_nin, inok_i, inok_int, inok_str, inok_tup, any_ints, scl_int, scl_str, scl_bl, scl_non, sizeLine, Nat.reducePow, blt_maxl, blt_minl, Int.cast_ofNat_Int, st_rexc, rx_ref, rx_nt, cmp_tt, cmn_tt, cmp_ll, cmn_ll, okD_int, okD_bl, okD_non, okD_str, okD_tup, okD_lst, okDs_nil, okDs_cons, depD_int, depD_bl, depD_non, depD_str, depD_tup, depD_lst, depDs_nil, depDs_cons, eqok_ti, eqok_li, eqok_t, eqok_l, okDs_ints, depDs_ints, eq_int, eq_bl, eq_str, eq_non, eq_tup, eq_lst, eqs_nil, eqs_nc, eqs_cn, eqs_ints, eqs_cons, Nat.max_self, Nat.zero_max, Nat.max_zero, Nat.zero_add, Nat.le_refl, Nat.zero_le, pkv_val, pkv_own, evv_val, evv_own, rtv_val, rtv_own, rd_dat, rd_slot, dm_val, dm_own, ev_var, pk_var, rt_var, pk_int, rt_int, pk_bl, rt_bl, pk_non, rt_non, pk_str, rt_str, pk_fnv, rt_fnv, pk_gint, rt_gint, pk_bin, rt_bin, pk_neg, rt_neg, pk_not, rt_not, pk_cmp, rt_cmp, pk_chn, rt_chn, pk_isn, rt_isn, pk_ntn, rt_ntn, pk_and, rt_and, pk_or, rt_or, pk_ite, rt_ite, pk_tup, rt_tup, pk_lst, rt_lst, pk_call, rt_call, pk_cio, rt_cio, pk_clv, rt_clv, pk_blt, rt_blt, pk_isi, rt_isi, pk_ix, rt_ix, pk_slc, rt_slc, pk_rev, rt_rev, pk_lrng, rt_lrng, pk_lc, rt_lc, pk_met, rt_met, S0_eq, S1_eq, S2_eq, S3_eq, S4_eq, S5_eq, S6_eq, M.isint_eq, M.iscnt_eq, M.chkcnt_eq, M.isrow_eq, M.isword_eq, M.state_eq, M.take_eq, M.great_eq, M.says_eq, M.same_eq, M.told_eq, M.allmal_eq, M.badD_eq, M.toldX_mal, M.toldX_ref, M.isI_int, M.isI_bl, M.isI_non, M.isI_str, M.isI_tup, M.isI_lst, M.cnt_i, M.cnt_bl, M.cnt_non, M.cnt_str, M.cnt_tup, M.cnt_lst, M.says_bl, M.says_int, M.says_non, M.isRow_tup, M.isRow_ints, M.isRow_int, M.isRow_bl, M.isRow_non, M.isRow_str, M.isRow_lst, M.rowOk_int, M.rowOk_bl, M.rowOk_non, M.rowOk_str, M.rowOk_lst, M.rowOk_ints, M.rowOk_tup, M.isWord_ints, M.seen_int, M.seen_bl, M.seen_str, M.seen_non, M.seen_lst, M.seen_ints, M.seen_tup, M.due_int, M.due_bl, M.due_str, M.due_non, M.due_t1, M.due_t2, M.due_t3, M.due_t4, M.due_t5, M.due_t6, M.due_l2, M.due_l3, M.due_l4, M.due_l5, M.due_l6, M.same_int, M.same_bl, M.same_str, M.same_non, M.same_tup, M.same_tlst, M.sames_nil, M.sames_cons, List.all_cons, List.all_nil, em, List.replicate_succ, List.replicate_zero, and_self, imp_self, List.any_cons, List.any_nil, Bool.or_true, Bool.true_or, Bool.or_false, Bool.false_or, Bool.or_self, Bool.and_self, Int.reduceAdd, Int.reduceSub, Int.reduceMul, Nat.reduceLeDiff, Nat.reduceLT, Nat.reduceEqDiff, Int.reduceAbs, Int.reduceToNat, Int.toNat_natCast, s_is_integer, fr_is_integer, p_is_integer, s_is_whole_row, fr_is_whole_row, p_is_whole_row, s_is_ring, fr_is_ring, p_is_ring, s_is_spot, fr_is_spot, p_is_spot, s_check_spots, fr_check_spots, p_check_spots, s_spot_plus, fr_spot_plus, p_spot_plus, s_spot_less, fr_spot_less, p_spot_less, s_spot_times, fr_spot_times, p_spot_times, s_spot_product, fr_spot_product, p_spot_product, s_spot_norm, fr_spot_norm, p_spot_norm, s_spot_turned, fr_spot_turned, p_spot_turned, s_spot_over, fr_spot_over, p_spot_over, s_spot_quotient, fr_spot_quotient, p_spot_quotient, s_is_plane_base, fr_is_plane_base, p_is_plane_base, s_plain_digits, fr_plain_digits, p_plain_digits, s_plane_step, fr_plane_step, p_plane_step, s_is_gauss_base, fr_is_gauss_base, p_is_gauss_base, s__law_state, fr__law_state, p__law_state, s__law_take, fr__law_take, p__law_take, s__law_says, fr__law_says, p__law_says, s__law_is_whole, fr__law_is_whole, p__law_is_whole, s__law_same_v, fr__law_same_v, p__law_same_v, s__law_same_0, fr__law_same_0, p__law_same_0, s__law_same_1, fr__law_same_1, p__law_same_1, s__law_same_2, fr__law_same_2, p__law_same_2, s__law_same_3, fr__law_same_3, p__law_same_3, s__law_same_4, fr__law_same_4, p__law_same_4, s__law_told, fr__law_told, p__law_told, s__law_all_malformed, fr__law_all_malformed, p__law_all_malformed, s__law_product, fr__law_product, p__law_product, s__law_norm, fr__law_norm, p__law_norm, s__law_over_spot, fr__law_over_spot, p__law_over_spot, s__law_less, fr__law_less, p__law_less, s__law_ring, fr__law_ring, p__law_ring, s__law_plane, fr__law_plane, p__law_plane, s__law_step, fr__law_step, p__law_step, s__law_spot, fr__law_spot, p__law_spot, s__law_is_spot, fr__law_is_spot, p__law_is_spot, s__law_is_base, fr__law_is_base, p__law_is_base, s_law, fr_law, p_law, v_7, v_9, v_10, v_11, v_13, v_14, v_16, sn_expr, sn_asg, sn_asgl, sn_unp, sn_par, sn_app, sn_seti, sn_tr, so_ifn, $ts,*])
  | `(tactic| simp_arith!) => `(tactic| simp only [st_for, st_nil, st_ret, st_retn, st_brk, st_cnt, st_rmal, e_int, e_bl, e_non, e_str, e_fnv, e_gint, e_bin, e_neg, e_cmp, e_isn, e_ntn, e_and, e_or, e_tup, e_lst, e_call, e_cio, e_clv, e_blt, e_isi, e_ix, e_slc, e_rev, e_lrng, e_lc, e_met, wA, wP, wT, kpN_sow, kpN_seq, kpN_rng, kpN_zip, kpN_enm, i_rng, i_seq, i_zip, i_enm, wCs, wHnd, at_, put, putAll, putCs, wTgt, rng_1, rng_2, zip_tt, zip_ll, enm_t, enm_l, cellOf, frE, frF, frB, isOwn, isOwnL, List.getElem?_cons_zero, List.getElem?_cons_succ, List.getElem?_nil, Option.getD_some, Option.getD_none, List.set_cons_zero, List.set_cons_succ, ne_eq, reduceCtorEq, not_false_eq_true, not_true_eq_false, true_and, and_true, if_true, if_false, ite_true, ite_false, Bool.false_eq_true, Bool.true_eq_false, Bool.true_and, Bool.and_true, Bool.false_and, Bool.and_false, Bool.not_true, Bool.not_false, false_implies, true_implies, forall_const, implies_true, bin_add, bin_sub, bin_mul, bin_fdiv, bin_mod, bin_adds, bin_addt, bin_addl, bin_mull, bin_mult, cmp_lt, cmp_le, cmp_gt, cmp_ge, cmp_eqi, cmp_nei, cmp_eqb, cmp_eqs, tru_bl, tru_int, tru_non, tru_tup, tru_lst, tru_frz, ix_tup, len_tup, tpl_tup, lsl_tup, slc_tup, seq_tup, ix_lst, len_lst, tpl_lst, lsl_lst, slc_lst, seq_lst, ix_frz, len_frz, tpl_frz, lsl_frz, slc_frz, seq_frz, len_str, blt_abs, blt_int, blt_intb, blt_max, blt_min, blt_str, blt_all, blt_any, blt_sum, opt_0, opt_1, atI_0, atI_1, atI_2, atI_3, atI_4, ixN_20, ixN_21, ty_bl_int, ty_bl_bool, ty_bl_str, ty_bl_tuple, ty_bl_list, ht_bl, nn_bl, mu_bl, ty_int_int, ty_int_bool, ty_int_str, ty_int_tuple, ty_int_list, ht_int, nn_int, mu_int, ty_str_int, ty_str_bool, ty_str_str, ty_str_tuple, ty_str_list, ht_str, nn_str, mu_str, ty_tup_int, ty_tup_bool, ty_tup_str, ty_tup_tuple, ty_tup_list, ht_tup, nn_tup, mu_tup, ty_lst_int, ty_lst_bool, ty_lst_str, ty_lst_tuple, ty_lst_list, ht_lst, nn_lst, mu_lst, ty_frz_int, ty_frz_bool, ty_frz_str, ty_frz_tuple, ty_frz_list, ht_frz, nn_frz, mu_frz, ty_non_int, ty_non_bool, ty_non_str, ty_non_tuple, ty_non_list, ht_non, nn_non, mu_non, List.map_cons, List.map_nil, exists_eq_left', decide_eq_true_eq, exists_eq_left, List.length_cons, List.length_nil, Nat.reduceAdd, Int.reduceEq, Int.reduceLT, Int.reduceLE, Int.reduceNeg, decide_true, decide_false, Cl.own.injEq, D.tup.injEq, List.mem_cons, List.not_mem_nil, or_false, forall_eq_or_imp, forall_eq, Option.some.injEq, List.cons_append, List.nil_append, gt_iff_lt, ge_iff_le, Int.reduceNegSucc, strOk_digits, strOk_zero, strOk_told, strOk_refused, strOk_malformed, i_sow, sw_val, sw_own, br_t, br_f, br_not, br_dec, br_beq, beq_iff_eq, br_and, br_or, br_same, bb_bl, eo_ite, eo_chn, eo_not, and_1, and_2, or_1, or_2, ta_n, ta_c, to_n, to_c, cmp_in, cmp_nin, inok_i, inok_int, inok_str, inok_tup, any_ints, scl_int, scl_str, scl_bl, scl_non, sizeLine, Nat.reducePow, blt_maxl, blt_minl, Int.cast_ofNat_Int, st_rexc, rx_ref, rx_nt, cmp_tt, cmn_tt, cmp_ll, cmn_ll, okD_int, okD_bl, okD_non, okD_str, okD_tup, okD_lst, okDs_nil, okDs_cons, depD_int, depD_bl, depD_non, depD_str, depD_tup, depD_lst, depDs_nil, depDs_cons, eqok_ti, eqok_li, eqok_t, eqok_l, okDs_ints, depDs_ints, eq_int, eq_bl, eq_str, eq_non, eq_tup, eq_lst, eqs_nil, eqs_nc, eqs_cn, eqs_ints, eqs_cons, Nat.max_self, Nat.zero_max, Nat.max_zero, Nat.zero_add, Nat.le_refl, Nat.zero_le, pkv_val, pkv_own, evv_val, evv_own, rtv_val, rtv_own, rd_dat, rd_slot, dm_val, dm_own, ev_var, pk_var, rt_var, pk_int, rt_int, pk_bl, rt_bl, pk_non, rt_non, pk_str, rt_str, pk_fnv, rt_fnv, pk_gint, rt_gint, pk_bin, rt_bin, pk_neg, rt_neg, pk_not, rt_not, pk_cmp, rt_cmp, pk_chn, rt_chn, pk_isn, rt_isn, pk_ntn, rt_ntn, pk_and, rt_and, pk_or, rt_or, pk_ite, rt_ite, pk_tup, rt_tup, pk_lst, rt_lst, pk_call, rt_call, pk_cio, rt_cio, pk_clv, rt_clv, pk_blt, rt_blt, pk_isi, rt_isi, pk_ix, rt_ix, pk_slc, rt_slc, pk_rev, rt_rev, pk_lrng, rt_lrng, pk_lc, rt_lc, pk_met, rt_met, S0_eq, S1_eq, S2_eq, S3_eq, S4_eq, S5_eq, S6_eq, M.isint_eq, M.iscnt_eq, M.chkcnt_eq, M.isrow_eq, M.isword_eq, M.state_eq, M.take_eq, M.great_eq, M.says_eq, M.same_eq, M.told_eq, M.allmal_eq, M.badD_eq, M.toldX_mal, M.toldX_ref, M.isI_int, M.isI_bl, M.isI_non, M.isI_str, M.isI_tup, M.isI_lst, M.cnt_i, M.cnt_bl, M.cnt_non, M.cnt_str, M.cnt_tup, M.cnt_lst, M.says_bl, M.says_int, M.says_non, M.isRow_tup, M.isRow_ints, M.isRow_int, M.isRow_bl, M.isRow_non, M.isRow_str, M.isRow_lst, M.rowOk_int, M.rowOk_bl, M.rowOk_non, M.rowOk_str, M.rowOk_lst, M.rowOk_ints, M.rowOk_tup, M.isWord_ints, M.seen_int, M.seen_bl, M.seen_str, M.seen_non, M.seen_lst, M.seen_ints, M.seen_tup, M.due_int, M.due_bl, M.due_str, M.due_non, M.due_t1, M.due_t2, M.due_t3, M.due_t4, M.due_t5, M.due_t6, M.due_l2, M.due_l3, M.due_l4, M.due_l5, M.due_l6, M.same_int, M.same_bl, M.same_str, M.same_non, M.same_tup, M.same_tlst, M.sames_nil, M.sames_cons, List.all_cons, List.all_nil, em, List.replicate_succ, List.replicate_zero, and_self, imp_self, List.any_cons, List.any_nil, Bool.or_true, Bool.true_or, Bool.or_false, Bool.false_or, Bool.or_self, Bool.and_self, Int.reduceAdd, Int.reduceSub, Int.reduceMul, Nat.reduceLeDiff, Nat.reduceLT, Nat.reduceEqDiff, Int.reduceAbs, Int.reduceToNat, Int.toNat_natCast, s_is_integer, fr_is_integer, p_is_integer, s_is_whole_row, fr_is_whole_row, p_is_whole_row, s_is_ring, fr_is_ring, p_is_ring, s_is_spot, fr_is_spot, p_is_spot, s_check_spots, fr_check_spots, p_check_spots, s_spot_plus, fr_spot_plus, p_spot_plus, s_spot_less, fr_spot_less, p_spot_less, s_spot_times, fr_spot_times, p_spot_times, s_spot_product, fr_spot_product, p_spot_product, s_spot_norm, fr_spot_norm, p_spot_norm, s_spot_turned, fr_spot_turned, p_spot_turned, s_spot_over, fr_spot_over, p_spot_over, s_spot_quotient, fr_spot_quotient, p_spot_quotient, s_is_plane_base, fr_is_plane_base, p_is_plane_base, s_plain_digits, fr_plain_digits, p_plain_digits, s_plane_step, fr_plane_step, p_plane_step, s_is_gauss_base, fr_is_gauss_base, p_is_gauss_base, s__law_state, fr__law_state, p__law_state, s__law_take, fr__law_take, p__law_take, s__law_says, fr__law_says, p__law_says, s__law_is_whole, fr__law_is_whole, p__law_is_whole, s__law_same_v, fr__law_same_v, p__law_same_v, s__law_same_0, fr__law_same_0, p__law_same_0, s__law_same_1, fr__law_same_1, p__law_same_1, s__law_same_2, fr__law_same_2, p__law_same_2, s__law_same_3, fr__law_same_3, p__law_same_3, s__law_same_4, fr__law_same_4, p__law_same_4, s__law_told, fr__law_told, p__law_told, s__law_all_malformed, fr__law_all_malformed, p__law_all_malformed, s__law_product, fr__law_product, p__law_product, s__law_norm, fr__law_norm, p__law_norm, s__law_over_spot, fr__law_over_spot, p__law_over_spot, s__law_less, fr__law_less, p__law_less, s__law_ring, fr__law_ring, p__law_ring, s__law_plane, fr__law_plane, p__law_plane, s__law_step, fr__law_step, p__law_step, s__law_spot, fr__law_spot, p__law_spot, s__law_is_spot, fr__law_is_spot, p__law_is_spot, s__law_is_base, fr__law_is_base, p__law_is_base, s_law, fr_law, p_law, v_7, v_9, v_10, v_11, v_13, v_14, v_16, sn_expr, sn_asg, sn_asgl, sn_unp, sn_par, sn_app, sn_seti, sn_tr, so_ifn])
local macro_rules
  | `(tactic| simp_all_arith [$ts,*]) => `(tactic| ((try (dsimp only)); (try (rw [wN_eq])); try simp only [st_for, st_nil, st_ret, st_retn, st_brk, st_cnt, st_rmal, e_int, e_bl, e_non, e_str, e_fnv, e_gint, e_bin, e_neg, e_cmp, e_isn, e_ntn, e_and, e_or, e_tup, e_lst, e_call, e_cio, e_clv, e_blt, e_isi, e_ix, e_slc, e_rev, e_lrng, e_lc, e_met, wA, wP, wT, kpN_sow, kpN_seq, kpN_rng, kpN_zip, kpN_enm, i_rng, i_seq, i_zip, i_enm, wCs, wHnd, at_, put, putAll, putCs, wTgt, rng_1, rng_2, zip_tt, zip_ll, enm_t, enm_l, cellOf, frE, frF, frB, isOwn, isOwnL, List.getElem?_cons_zero, List.getElem?_cons_succ, List.getElem?_nil, Option.getD_some, Option.getD_none, List.set_cons_zero, List.set_cons_succ, ne_eq, reduceCtorEq, not_false_eq_true, not_true_eq_false, true_and, and_true, if_true, if_false, ite_true, ite_false, Bool.false_eq_true, Bool.true_eq_false, Bool.true_and, Bool.and_true, Bool.false_and, Bool.and_false, Bool.not_true, Bool.not_false, false_implies, true_implies, forall_const, implies_true, bin_add, bin_sub, bin_mul, bin_fdiv, bin_mod, bin_adds, bin_addt, bin_addl, bin_mull, bin_mult, cmp_lt, cmp_le, cmp_gt, cmp_ge, cmp_eqi, cmp_nei, cmp_eqb, cmp_eqs, tru_bl, tru_int, tru_non, tru_tup, tru_lst, tru_frz, ix_tup, len_tup, tpl_tup, lsl_tup, slc_tup, seq_tup, ix_lst, len_lst, tpl_lst, lsl_lst, slc_lst, seq_lst, ix_frz, len_frz, tpl_frz, lsl_frz, slc_frz, seq_frz, len_str, blt_abs, blt_int, blt_intb, blt_max, blt_min, blt_str, blt_all, blt_any, blt_sum, opt_0, opt_1, atI_0, atI_1, atI_2, atI_3, atI_4, ixN_20, ixN_21, ty_bl_int, ty_bl_bool, ty_bl_str, ty_bl_tuple, ty_bl_list, ht_bl, nn_bl, mu_bl, ty_int_int, ty_int_bool, ty_int_str, ty_int_tuple, ty_int_list, ht_int, nn_int, mu_int, ty_str_int, ty_str_bool, ty_str_str, ty_str_tuple, ty_str_list, ht_str, nn_str, mu_str, ty_tup_int, ty_tup_bool, ty_tup_str, ty_tup_tuple, ty_tup_list, ht_tup, nn_tup, mu_tup, ty_lst_int, ty_lst_bool, ty_lst_str, ty_lst_tuple, ty_lst_list, ht_lst, nn_lst, mu_lst, ty_frz_int, ty_frz_bool, ty_frz_str, ty_frz_tuple, ty_frz_list, ht_frz, nn_frz, mu_frz, ty_non_int, ty_non_bool, ty_non_str, ty_non_tuple, ty_non_list, ht_non, nn_non, mu_non, List.map_cons, List.map_nil, exists_eq_left', decide_eq_true_eq, exists_eq_left, List.length_cons, List.length_nil, Nat.reduceAdd, Int.reduceEq, Int.reduceLT, Int.reduceLE, Int.reduceNeg, decide_true, decide_false, Cl.own.injEq, D.tup.injEq, List.mem_cons, List.not_mem_nil, or_false, forall_eq_or_imp, forall_eq, Option.some.injEq, List.cons_append, List.nil_append, gt_iff_lt, ge_iff_le, Int.reduceNegSucc, strOk_digits, strOk_zero, strOk_told, strOk_refused, strOk_malformed, i_sow, sw_val, sw_own, br_t, br_f, br_not, br_dec, br_beq, beq_iff_eq, br_and, br_or, br_same, bb_bl, eo_ite, eo_chn, eo_not, and_1, and_2, or_1, or_2, ta_n, ta_c, to_n, to_c, cmp_in, cmp_nin, inok_i, inok_int, inok_str, inok_tup, any_ints, scl_int, scl_str, scl_bl, scl_non, sizeLine, Nat.reducePow, blt_maxl, blt_minl, Int.cast_ofNat_Int, st_rexc, rx_ref, rx_nt, cmp_tt, cmn_tt, cmp_ll, cmn_ll, okD_int, okD_bl, okD_non, okD_str, okD_tup, okD_lst, okDs_nil, okDs_cons, depD_int, depD_bl, depD_non, depD_str, depD_tup, depD_lst, depDs_nil, depDs_cons, eqok_ti, eqok_li, eqok_t, eqok_l, okDs_ints, depDs_ints, eq_int, eq_bl, eq_str, eq_non, eq_tup, eq_lst, eqs_nil, eqs_nc, eqs_cn, eqs_ints, eqs_cons, Nat.max_self, Nat.zero_max, Nat.max_zero, Nat.zero_add, Nat.le_refl, Nat.zero_le, pkv_val, pkv_own, evv_val, evv_own, rtv_val, rtv_own, rd_dat, rd_slot, dm_val, dm_own, ev_var, pk_var, rt_var, pk_int, rt_int, pk_bl, rt_bl, pk_non, rt_non, pk_str, rt_str, pk_fnv, rt_fnv, pk_gint, rt_gint, pk_bin, rt_bin, pk_neg, rt_neg, pk_not, rt_not, pk_cmp, rt_cmp, pk_chn, rt_chn, pk_isn, rt_isn, pk_ntn, rt_ntn, pk_and, rt_and, pk_or, rt_or, pk_ite, rt_ite, pk_tup, rt_tup, pk_lst, rt_lst, pk_call, rt_call, pk_cio, rt_cio, pk_clv, rt_clv, pk_blt, rt_blt, pk_isi, rt_isi, pk_ix, rt_ix, pk_slc, rt_slc, pk_rev, rt_rev, pk_lrng, rt_lrng, pk_lc, rt_lc, pk_met, rt_met, S0_eq, S1_eq, S2_eq, S3_eq, S4_eq, S5_eq, S6_eq, M.isint_eq, M.iscnt_eq, M.chkcnt_eq, M.isrow_eq, M.isword_eq, M.state_eq, M.take_eq, M.great_eq, M.says_eq, M.same_eq, M.told_eq, M.allmal_eq, M.badD_eq, M.toldX_mal, M.toldX_ref, M.isI_int, M.isI_bl, M.isI_non, M.isI_str, M.isI_tup, M.isI_lst, M.cnt_i, M.cnt_bl, M.cnt_non, M.cnt_str, M.cnt_tup, M.cnt_lst, M.says_bl, M.says_int, M.says_non, M.isRow_tup, M.isRow_ints, M.isRow_int, M.isRow_bl, M.isRow_non, M.isRow_str, M.isRow_lst, M.rowOk_int, M.rowOk_bl, M.rowOk_non, M.rowOk_str, M.rowOk_lst, M.rowOk_ints, M.rowOk_tup, M.isWord_ints, M.seen_int, M.seen_bl, M.seen_str, M.seen_non, M.seen_lst, M.seen_ints, M.seen_tup, M.due_int, M.due_bl, M.due_str, M.due_non, M.due_t1, M.due_t2, M.due_t3, M.due_t4, M.due_t5, M.due_t6, M.due_l2, M.due_l3, M.due_l4, M.due_l5, M.due_l6, M.same_int, M.same_bl, M.same_str, M.same_non, M.same_tup, M.same_tlst, M.sames_nil, M.sames_cons, List.all_cons, List.all_nil, em, List.replicate_succ, List.replicate_zero, and_self, imp_self, List.any_cons, List.any_nil, Bool.or_true, Bool.true_or, Bool.or_false, Bool.false_or, Bool.or_self, Bool.and_self, Int.reduceAdd, Int.reduceSub, Int.reduceMul, Nat.reduceLeDiff, Nat.reduceLT, Nat.reduceEqDiff, Int.reduceAbs, Int.reduceToNat, Int.toNat_natCast, s_is_integer, fr_is_integer, p_is_integer, s_is_whole_row, fr_is_whole_row, p_is_whole_row, s_is_ring, fr_is_ring, p_is_ring, s_is_spot, fr_is_spot, p_is_spot, s_check_spots, fr_check_spots, p_check_spots, s_spot_plus, fr_spot_plus, p_spot_plus, s_spot_less, fr_spot_less, p_spot_less, s_spot_times, fr_spot_times, p_spot_times, s_spot_product, fr_spot_product, p_spot_product, s_spot_norm, fr_spot_norm, p_spot_norm, s_spot_turned, fr_spot_turned, p_spot_turned, s_spot_over, fr_spot_over, p_spot_over, s_spot_quotient, fr_spot_quotient, p_spot_quotient, s_is_plane_base, fr_is_plane_base, p_is_plane_base, s_plain_digits, fr_plain_digits, p_plain_digits, s_plane_step, fr_plane_step, p_plane_step, s_is_gauss_base, fr_is_gauss_base, p_is_gauss_base, s__law_state, fr__law_state, p__law_state, s__law_take, fr__law_take, p__law_take, s__law_says, fr__law_says, p__law_says, s__law_is_whole, fr__law_is_whole, p__law_is_whole, s__law_same_v, fr__law_same_v, p__law_same_v, s__law_same_0, fr__law_same_0, p__law_same_0, s__law_same_1, fr__law_same_1, p__law_same_1, s__law_same_2, fr__law_same_2, p__law_same_2, s__law_same_3, fr__law_same_3, p__law_same_3, s__law_same_4, fr__law_same_4, p__law_same_4, s__law_told, fr__law_told, p__law_told, s__law_all_malformed, fr__law_all_malformed, p__law_all_malformed, s__law_product, fr__law_product, p__law_product, s__law_norm, fr__law_norm, p__law_norm, s__law_over_spot, fr__law_over_spot, p__law_over_spot, s__law_less, fr__law_less, p__law_less, s__law_ring, fr__law_ring, p__law_ring, s__law_plane, fr__law_plane, p__law_plane, s__law_step, fr__law_step, p__law_step, s__law_spot, fr__law_spot, p__law_spot, s__law_is_spot, fr__law_is_spot, p__law_is_spot, s__law_is_base, fr__law_is_base, p__law_is_base, s_law, fr_law, p_law, v_7, v_9, v_10, v_11, v_13, v_14, v_16, sn_expr, sn_asg, sn_asgl, sn_unp, sn_par, sn_app, sn_seti, sn_tr, so_ifn, $ts,*]))
  | `(tactic| simp_all_arith) => `(tactic| ((try (dsimp only)); (try (rw [wN_eq])); try simp only [st_for, st_nil, st_ret, st_retn, st_brk, st_cnt, st_rmal, e_int, e_bl, e_non, e_str, e_fnv, e_gint, e_bin, e_neg, e_cmp, e_isn, e_ntn, e_and, e_or, e_tup, e_lst, e_call, e_cio, e_clv, e_blt, e_isi, e_ix, e_slc, e_rev, e_lrng, e_lc, e_met, wA, wP, wT, kpN_sow, kpN_seq, kpN_rng, kpN_zip, kpN_enm, i_rng, i_seq, i_zip, i_enm, wCs, wHnd, at_, put, putAll, putCs, wTgt, rng_1, rng_2, zip_tt, zip_ll, enm_t, enm_l, cellOf, frE, frF, frB, isOwn, isOwnL, List.getElem?_cons_zero, List.getElem?_cons_succ, List.getElem?_nil, Option.getD_some, Option.getD_none, List.set_cons_zero, List.set_cons_succ, ne_eq, reduceCtorEq, not_false_eq_true, not_true_eq_false, true_and, and_true, if_true, if_false, ite_true, ite_false, Bool.false_eq_true, Bool.true_eq_false, Bool.true_and, Bool.and_true, Bool.false_and, Bool.and_false, Bool.not_true, Bool.not_false, false_implies, true_implies, forall_const, implies_true, bin_add, bin_sub, bin_mul, bin_fdiv, bin_mod, bin_adds, bin_addt, bin_addl, bin_mull, bin_mult, cmp_lt, cmp_le, cmp_gt, cmp_ge, cmp_eqi, cmp_nei, cmp_eqb, cmp_eqs, tru_bl, tru_int, tru_non, tru_tup, tru_lst, tru_frz, ix_tup, len_tup, tpl_tup, lsl_tup, slc_tup, seq_tup, ix_lst, len_lst, tpl_lst, lsl_lst, slc_lst, seq_lst, ix_frz, len_frz, tpl_frz, lsl_frz, slc_frz, seq_frz, len_str, blt_abs, blt_int, blt_intb, blt_max, blt_min, blt_str, blt_all, blt_any, blt_sum, opt_0, opt_1, atI_0, atI_1, atI_2, atI_3, atI_4, ixN_20, ixN_21, ty_bl_int, ty_bl_bool, ty_bl_str, ty_bl_tuple, ty_bl_list, ht_bl, nn_bl, mu_bl, ty_int_int, ty_int_bool, ty_int_str, ty_int_tuple, ty_int_list, ht_int, nn_int, mu_int, ty_str_int, ty_str_bool, ty_str_str, ty_str_tuple, ty_str_list, ht_str, nn_str, mu_str, ty_tup_int, ty_tup_bool, ty_tup_str, ty_tup_tuple, ty_tup_list, ht_tup, nn_tup, mu_tup, ty_lst_int, ty_lst_bool, ty_lst_str, ty_lst_tuple, ty_lst_list, ht_lst, nn_lst, mu_lst, ty_frz_int, ty_frz_bool, ty_frz_str, ty_frz_tuple, ty_frz_list, ht_frz, nn_frz, mu_frz, ty_non_int, ty_non_bool, ty_non_str, ty_non_tuple, ty_non_list, ht_non, nn_non, mu_non, List.map_cons, List.map_nil, exists_eq_left', decide_eq_true_eq, exists_eq_left, List.length_cons, List.length_nil, Nat.reduceAdd, Int.reduceEq, Int.reduceLT, Int.reduceLE, Int.reduceNeg, decide_true, decide_false, Cl.own.injEq, D.tup.injEq, List.mem_cons, List.not_mem_nil, or_false, forall_eq_or_imp, forall_eq, Option.some.injEq, List.cons_append, List.nil_append, gt_iff_lt, ge_iff_le, Int.reduceNegSucc, strOk_digits, strOk_zero, strOk_told, strOk_refused, strOk_malformed, i_sow, sw_val, sw_own, br_t, br_f, br_not, br_dec, br_beq, beq_iff_eq, br_and, br_or, br_same, bb_bl, eo_ite, eo_chn, eo_not, and_1, and_2, or_1, or_2, ta_n, ta_c, to_n, to_c, cmp_in, cmp_nin, inok_i, inok_int, inok_str, inok_tup, any_ints, scl_int, scl_str, scl_bl, scl_non, sizeLine, Nat.reducePow, blt_maxl, blt_minl, Int.cast_ofNat_Int, st_rexc, rx_ref, rx_nt, cmp_tt, cmn_tt, cmp_ll, cmn_ll, okD_int, okD_bl, okD_non, okD_str, okD_tup, okD_lst, okDs_nil, okDs_cons, depD_int, depD_bl, depD_non, depD_str, depD_tup, depD_lst, depDs_nil, depDs_cons, eqok_ti, eqok_li, eqok_t, eqok_l, okDs_ints, depDs_ints, eq_int, eq_bl, eq_str, eq_non, eq_tup, eq_lst, eqs_nil, eqs_nc, eqs_cn, eqs_ints, eqs_cons, Nat.max_self, Nat.zero_max, Nat.max_zero, Nat.zero_add, Nat.le_refl, Nat.zero_le, pkv_val, pkv_own, evv_val, evv_own, rtv_val, rtv_own, rd_dat, rd_slot, dm_val, dm_own, ev_var, pk_var, rt_var, pk_int, rt_int, pk_bl, rt_bl, pk_non, rt_non, pk_str, rt_str, pk_fnv, rt_fnv, pk_gint, rt_gint, pk_bin, rt_bin, pk_neg, rt_neg, pk_not, rt_not, pk_cmp, rt_cmp, pk_chn, rt_chn, pk_isn, rt_isn, pk_ntn, rt_ntn, pk_and, rt_and, pk_or, rt_or, pk_ite, rt_ite, pk_tup, rt_tup, pk_lst, rt_lst, pk_call, rt_call, pk_cio, rt_cio, pk_clv, rt_clv, pk_blt, rt_blt, pk_isi, rt_isi, pk_ix, rt_ix, pk_slc, rt_slc, pk_rev, rt_rev, pk_lrng, rt_lrng, pk_lc, rt_lc, pk_met, rt_met, S0_eq, S1_eq, S2_eq, S3_eq, S4_eq, S5_eq, S6_eq, M.isint_eq, M.iscnt_eq, M.chkcnt_eq, M.isrow_eq, M.isword_eq, M.state_eq, M.take_eq, M.great_eq, M.says_eq, M.same_eq, M.told_eq, M.allmal_eq, M.badD_eq, M.toldX_mal, M.toldX_ref, M.isI_int, M.isI_bl, M.isI_non, M.isI_str, M.isI_tup, M.isI_lst, M.cnt_i, M.cnt_bl, M.cnt_non, M.cnt_str, M.cnt_tup, M.cnt_lst, M.says_bl, M.says_int, M.says_non, M.isRow_tup, M.isRow_ints, M.isRow_int, M.isRow_bl, M.isRow_non, M.isRow_str, M.isRow_lst, M.rowOk_int, M.rowOk_bl, M.rowOk_non, M.rowOk_str, M.rowOk_lst, M.rowOk_ints, M.rowOk_tup, M.isWord_ints, M.seen_int, M.seen_bl, M.seen_str, M.seen_non, M.seen_lst, M.seen_ints, M.seen_tup, M.due_int, M.due_bl, M.due_str, M.due_non, M.due_t1, M.due_t2, M.due_t3, M.due_t4, M.due_t5, M.due_t6, M.due_l2, M.due_l3, M.due_l4, M.due_l5, M.due_l6, M.same_int, M.same_bl, M.same_str, M.same_non, M.same_tup, M.same_tlst, M.sames_nil, M.sames_cons, List.all_cons, List.all_nil, em, List.replicate_succ, List.replicate_zero, and_self, imp_self, List.any_cons, List.any_nil, Bool.or_true, Bool.true_or, Bool.or_false, Bool.false_or, Bool.or_self, Bool.and_self, Int.reduceAdd, Int.reduceSub, Int.reduceMul, Nat.reduceLeDiff, Nat.reduceLT, Nat.reduceEqDiff, Int.reduceAbs, Int.reduceToNat, Int.toNat_natCast, s_is_integer, fr_is_integer, p_is_integer, s_is_whole_row, fr_is_whole_row, p_is_whole_row, s_is_ring, fr_is_ring, p_is_ring, s_is_spot, fr_is_spot, p_is_spot, s_check_spots, fr_check_spots, p_check_spots, s_spot_plus, fr_spot_plus, p_spot_plus, s_spot_less, fr_spot_less, p_spot_less, s_spot_times, fr_spot_times, p_spot_times, s_spot_product, fr_spot_product, p_spot_product, s_spot_norm, fr_spot_norm, p_spot_norm, s_spot_turned, fr_spot_turned, p_spot_turned, s_spot_over, fr_spot_over, p_spot_over, s_spot_quotient, fr_spot_quotient, p_spot_quotient, s_is_plane_base, fr_is_plane_base, p_is_plane_base, s_plain_digits, fr_plain_digits, p_plain_digits, s_plane_step, fr_plane_step, p_plane_step, s_is_gauss_base, fr_is_gauss_base, p_is_gauss_base, s__law_state, fr__law_state, p__law_state, s__law_take, fr__law_take, p__law_take, s__law_says, fr__law_says, p__law_says, s__law_is_whole, fr__law_is_whole, p__law_is_whole, s__law_same_v, fr__law_same_v, p__law_same_v, s__law_same_0, fr__law_same_0, p__law_same_0, s__law_same_1, fr__law_same_1, p__law_same_1, s__law_same_2, fr__law_same_2, p__law_same_2, s__law_same_3, fr__law_same_3, p__law_same_3, s__law_same_4, fr__law_same_4, p__law_same_4, s__law_told, fr__law_told, p__law_told, s__law_all_malformed, fr__law_all_malformed, p__law_all_malformed, s__law_product, fr__law_product, p__law_product, s__law_norm, fr__law_norm, p__law_norm, s__law_over_spot, fr__law_over_spot, p__law_over_spot, s__law_less, fr__law_less, p__law_less, s__law_ring, fr__law_ring, p__law_ring, s__law_plane, fr__law_plane, p__law_plane, s__law_step, fr__law_step, p__law_step, s__law_spot, fr__law_spot, p__law_spot, s__law_is_spot, fr__law_is_spot, p__law_is_spot, s__law_is_base, fr__law_is_base, p__law_is_base, s_law, fr_law, p_law, v_7, v_9, v_10, v_11, v_13, v_14, v_16, sn_expr, sn_asg, sn_asgl, sn_unp, sn_par, sn_app, sn_seti, sn_tr, so_ifn]))
local macro_rules
  | `(tactic| ac_nf0) => `(tactic| ((repeat' (with_reducible refine And.intro ?_ ?_)) <;> first | omega | exact mulL (by omega) (by omega) | exact mulR (by omega) (by omega) | exact divOk (by omega) (by omega) | (with_reducible rfl) | assumption | (unfold sizeLine; omega) | (simp only [sizeLine, List.length_cons, List.length_nil, List.length_map, List.length_append]; omega) | skip))
set_option hygiene false in
local macro_rules
  | `(tactic| simp_all_arith!) => `(tactic| repeat' first | exact h1 _ _ | exact h2 _ | exact id | exact False.elim | refine And.imp ?_ ?_ | refine ite_mono ?_ ?_ | refine br_mono ?_ ?_ | (refine all_mono ?_; intro _) | (refine ex_mono ?_; intro _) | split)
theorem ring_g {t n : Int} (hr : (t, n) ∈ rings) : ringN (t, n) = true ∧ (-3 ≤ t ∧ t ≤ 1) ∧ (1 ≤ n ∧ n ≤ 4) := by
  simp only [rings, List.mem_cons, List.not_mem_nil, or_false, Prod.mk.injEq] at hr
  rcases hr with ⟨rfl, rfl⟩ | ⟨rfl, rfl⟩ | ⟨rfl, rfl⟩ | ⟨rfl, rfl⟩ | ⟨rfl, rfl⟩ | ⟨rfl, rfl⟩ | ⟨rfl, rfl⟩ <;> exact ⟨rfl, by decide, by decide⟩
theorem ck_r {r : Pt} {zs : List D} (h : ringN r = true) : chkS (.tup [.int r.1, .int r.2]) zs = zs.all isSpot := by
  show (ringN r && _) = _
  rw [h, Bool.true_and]
theorem ck_z {a b : Int} : isSpot (.tup [.int a, .int b]) = within most (a, b) := rfl
theorem conj_prod {t n a b : Int} : prod (t, n) (a, b) (a + t * b, -b) = (norm (t, n) (a, b), 0) := by
  unfold prod norm
  dsimp only
  refine Prod.ext ?_ ?_
  · dsimp only
    grind
  · dsimp only
    grind
theorem mulBd {x y X Y : Int} (a1 : -X ≤ x) (a2 : x ≤ X) (b1 : -Y ≤ y) (b2 : y ≤ Y) : -(X * Y) ≤ x * y ∧ x * y ≤ X * Y := by
  have e1 : 0 ≤ (X - x) * (Y + y) := Int.mul_nonneg (by omega) (by omega)
  have e2 : 0 ≤ (X + x) * (Y - y) := Int.mul_nonneg (by omega) (by omega)
  have e3 : 0 ≤ (X - x) * (Y - y) := Int.mul_nonneg (by omega) (by omega)
  have e4 : 0 ≤ (X + x) * (Y + y) := Int.mul_nonneg (by omega) (by omega)
  constructor <;> grind
theorem prod_in {t n a b c d : Int} (ht : -3 ≤ t ∧ t ≤ 1) (hn : 1 ≤ n ∧ n ≤ 4) (hz : within 20000060 (a, b) = true) (hs : within 4 (c, d) = true) : within most (prod (t, n) (a, b) (c, d)) = true := by
  have z := wi hz
  have s := wi hs
  have p1 := mulBd z.1.1 z.1.2 s.1.1 s.1.2
  have p2 := mulBd (X := 4) (Y := 20000060) (x := n) (y := b) (by omega) (by omega) z.2.1 z.2.2
  have p3 := mulBd p2.1 p2.2 s.2.1 s.2.2
  have p4 := mulBd z.1.1 z.1.2 s.2.1 s.2.2
  have p5 := mulBd z.2.1 z.2.2 s.1.1 s.1.2
  have p6 := mulBd (X := 4) (Y := 20000060) (x := t) (y := b) (by omega) (by omega) z.2.1 z.2.2
  have p7 := mulBd p6.1 p6.2 s.2.1 s.2.2
  unfold prod
  refine iw ?_ ?_ ?_ ?_ <;> unfold most <;> dsimp only <;> omega
theorem bg {a : Int} (h1 : -1000000000000000 ≤ a) (h2 : a ≤ 1000000000000000) : big a := ⟨by omega, by omega⟩
theorem flat_opt : ∀ o : Option Pt, M.Flat (optD o)
  | none => .non
  | some p => .tup (.cons (.int _) (.cons (.int _) .nil))
theorem due_opt : ∀ (o : Option Pt) (n : Nat), M.Due (n + 1) (optD o)
  | none, n => .non _
  | some p, n => .tup (by show 2 ≤ sizeLine; decide) (by
    intro x hx
    simp only [List.mem_cons, List.not_mem_nil, or_false] at hx
    rcases hx with rfl | rfl
    · exact .int _ _
    · exact .int _ _)
theorem plain_e {n : Int} : (rngD 0 n).map (fun z => D.tup [z, .int 0]) = (plainZ n).map pt := by
  unfold rngD plainZ
  rw [List.map_map, List.map_map]
  simp
theorem dig_pts {zs : List Pt} (h : zs.length ≤ 1000) : digOk (.tup (zs.map pt)) := ⟨rfl, fun xs e => by
  cases e
  refine ⟨by rw [List.length_map]; exact h, fun x hx => ?_⟩
  obtain ⟨z, _, rfl⟩ := List.mem_map.mp hx
  exact M.rowOk_tup.mpr ⟨by simp [sizeLine], by simp [hasTy]⟩⟩
theorem plain2 {t n : Int} (hr : (t, n) ∈ rings) : (t = 0 ∧ n = 1 → normB (t, n) (0, 2) = true ∧ baseP (t, n) (0, 2) (plainZ (norm (t, n) (0, 2))) = false) ∧ (¬ (t = 0 ∧ n = 1) → normB (t, n) (2, 0) = true ∧ baseP (t, n) (2, 0) (plainZ (norm (t, n) (2, 0))) = false) := by
  simp only [rings, List.mem_cons, List.not_mem_nil, or_false, Prod.mk.injEq] at hr
  rcases hr with ⟨rfl, rfl⟩ | ⟨rfl, rfl⟩ | ⟨rfl, rfl⟩ | ⟨rfl, rfl⟩ | ⟨rfl, rfl⟩ | ⟨rfl, rfl⟩ | ⟨rfl, rfl⟩ <;> decide +kernel
theorem flat_step {r b z : Pt} : ∀ (zs : List Pt) (k : Nat), M.Flat (stepF r b z k zs)
  | [], _ => .non
  | d :: ds, k => by
    unfold stepF
    cases quot r (less z d) b with
    | none => exact flat_step ds (k + 1)
    | some q => exact .tup (.cons (.int _) (.cons (.tup (.cons (.int _) (.cons (.int _) .nil))) .nil))
theorem due_step {r b z : Pt} : ∀ (zs : List Pt) (k : Nat), M.Due 4 (stepF r b z k zs)
  | [], _ => .non _
  | d :: ds, k => by
    unfold stepF
    cases quot r (less z d) b with
    | none => exact due_step ds (k + 1)
    | some q =>
      refine .tup (by show 2 ≤ sizeLine; decide) fun x hx => ?_
      simp only [List.mem_cons, List.not_mem_nil, or_false] at hx
      rcases hx with rfl | rfl
      · exact .int _ _
      · refine .tup (by show 2 ≤ sizeLine; decide) fun x hx => ?_
        simp only [List.mem_cons, List.not_mem_nil, or_false] at hx
        rcases hx with rfl | rfl <;> exact .int _ _
theorem g_law : Good tx.T tx.ek f_law := G_law fun ns P X hp => by
  unfold b_law
  simp_arith!
  intro a b
  simp_all_arith
  simp_arith![sp__law_ring, st1]
  intro t n a b hr
  obtain ⟨gr, gt, gn⟩ := ring_g hr
  have r1 := rb gr
  have ck : ∀ zs, chkS (.tup [.int t, .int n]) zs = zs.all isSpot := fun zs => ck_r (r := (t, n)) gr
  simp_all_arith
  simp_arith![sp__law_spot, st1]
  intro z1 z2 hz w1 w2 a b hw
  have bz := wi hz
  have bw := wi hw
  have gz : within most (z1, z2) = true := by unfold most; exact iw (by omega) (by omega) (by omega) (by omega)
  have gw : within most (w1, w2) = true := by unfold most; exact iw (by omega) (by omega) (by omega) (by omega)
  rw [wN_eq]
  simp_arith![sp_spot_plus, sp_spot_less, two, sp__law_less, sp_spot_times, sp__law_product, sp_spot_product, ck, ck_z, gz, gw, ptD_eq]
  refine ⟨r1.1, r1.2, bg (by omega) (by omega), bg (by omega) (by omega), ?_⟩
  simp_all_arith
  refine ⟨mB (bg (by omega) (by omega)), ?_⟩
  rw [wN_eq]
  simp_arith![sp_spot_norm, sp__law_norm, sp_spot_turned, sp__law_product, sp_spot_product, conj_prod, conj, ck, ck_z, gz, gw, ptD_eq]
  have bgz1 : big z1 := bg (by omega) (by omega)
  have bgz2 : big z2 := bg (by omega) (by omega)
  have bgz2' : big (-z2) := bg (by omega) (by omega)
  have bgc : big (z1 + t * z2) := (bigC gr gz).1
  refine ⟨r1.1, r1.2, bgz1, bgz2, r1.1, r1.2, bgc, bgz2', r1.1, r1.2, bgz1, bgz2, ?_⟩
  simp_all_arith
  intro s1 s10 s11 s2 a b s20 s21
  have gs4 : within 4 (s1 - 4, s2 - 4) = true := iw (by omega) (by omega) (by omega) (by omega)
  have gs : within most (s1 - 4, s2 - 4) = true := by unfold most; exact iw (by omega) (by omega) (by omega) (by omega)
  generalize s1 - 4 = s1 at gs4 gs
  generalize s2 - 4 = s2 at gs4 gs
  have bs := wi gs4
  have bgs1 : big s1 := bg (by omega) (by omega)
  have bgs2 : big s2 := bg (by omega) (by omega)
  rw [wN_eq]
  simp_arith![sp__law_product, sp_spot_product]
  refine ⟨r1.1, r1.2, bgs1, bgs2, ?_⟩
  have gp := prod_in gt gn hz gs4
  generalize prod (t, n) (z1, z2) (s1, s2) = pq at gp
  obtain ⟨p1, p2⟩ := pq
  refine forS_ru (fun _ env => ∃ c, env = [Cl.val (D.frz (ns.map D.int)), Cl.own (D.lst [D.int a, D.int b]), Cl.val (D.tup [D.int t, D.int n]), Cl.val (D.tup [D.int z1, D.int z2]), Cl.val (D.tup [D.int w1, D.int w2]), Cl.val (D.tup [D.int (z1 + t * z2), D.int (-z2)]), Cl.val (D.tup [D.int s1, D.int s2]), c, .emp, .emp, .emp, .emp, .emp, .emp, .emp, .emp, .emp, .emp, .emp, .emp]) ⟨_, rfl⟩ ?_ ?_
  · rintro i d env nx hd ⟨c, rfl⟩ hn
    have hm := List.mem_of_getElem? hd
    have : ∃ u v, d = .tup [.int u, .int v] ∧ within most (u, v) = true := by
      simp only [List.mem_cons, List.not_mem_nil, or_false] at hm
      rcases hm with rfl | rfl | rfl
      · exact ⟨_, _, rfl, gz⟩
      · exact ⟨_, _, rfl, gw⟩
      · exact ⟨_, _, rfl, gp⟩
    obtain ⟨u, v, rfl, gu⟩ := this
    simp_arith[sp_spot_over, sp__law_over_spot, sp_spot_quotient, ck, ck_z, gu, gs, ptD_eq, gr]
    have fl := flat_opt (quot (t, n) (u, v) (s1, s2))
    refine ⟨fun _ => hn _ ⟨_, rfl⟩, fun q => ⟨fun e => absurd (Prod.mk.inj e) q, fun _ => ⟨q, fl.seen, due_opt _ _, fun _ => hn _ ⟨_, rfl⟩, fun h => absurd fl.same h⟩⟩⟩
  rintro env ⟨c, rfl⟩
  have w00 : within most (0, 0) = true := by decide
  rw [wN_eq]
  simp_arith![sp_spot_over, ck, ck_z, gz, w00, ptD_eq]
  rw [wN_eq]
  simp_arith![sp__law_plane]
  refine ⟨hr, fun u v zs a b gu hN1 hN2 hl1 hl2 hzs => ?_⟩
  have bu := wi gu
  have gu100 : within 100 (u, v) = true := iw (by omega) (by omega) (by omega) (by omega)
  have gum : within most (u, v) = true := by unfold most; exact iw (by omega) (by omega) (by omega) (by omega)
  have bgu : big u ∧ big v := ⟨bg (by omega) (by omega), bg (by omega) (by omega)⟩
  obtain ⟨x0, zt, hzz⟩ : ∃ x0 zt, zs = x0 :: zt := by
    cases zs with
    | nil => simp at hl2
    | cons x xs => exact ⟨x, xs, rfl⟩
  have hat : ∀ d, (zs.map pt)[0]? = some d → d = pt x0 := fun d h => by
    rw [hzz] at h
    exact (Option.some.inj h).symm
  have h0 : atI (zs.map pt) 0 = some (pt x0) := by rw [hzz]; exact atI_0
  rw [wN_eq]
  simp_arith![h0, cut_dl]
  refine ⟨by simp; omega, ?_⟩
  rw [wN_eq]
  simp_arith![sp__law_norm]
  refine ⟨r1.1, r1.2, bgu.1, bgu.2, ⟨by omega, by omega⟩, ⟨by omega, by omega⟩, ?_⟩
  refine lcS_map (fun z => .tup [z, .int 0]) (by show 19 < 20; decide) (by rw [rng_len]; unfold sizeLine; omega) (fun d hd k hk => ?_) ?_
  · simp_arith
    exact hk
  rw [plain_e]
  rw [List.length_map, ← List.map_take, show [D.tup [D.int (x0.1 + u), D.int (x0.2 + v)]] = [((x0.1 + u, x0.2 + v) : Pt)].map pt from rfl, ← List.map_append]
  generalize hben : zs.take (zs.length - 1) ++ [((x0.1 + u, x0.2 + v) : Pt)] = ben
  have hbl : ben.length ≤ 14 := by rw [← hben]; simp; omega
  generalize hpl : plainZ (norm (t, n) (u, v)) = pl
  have hpll : pl.length ≤ 13 := by rw [← hpl]; simp [plainZ]; omega
  have rr : ringD (.tup [.int t, .int n]) = true := gr
  have rk : ∀ a b : Int, M.rowOk (.tup [.int a, .int b]) := fun a b => M.rowOk_tup.mpr ⟨by show 2 ≤ sizeLine; decide, by simp [hasTy]⟩
  have d00 : ∀ x : D, hasTy x = true → (∀ ys, x = .tup ys → ys.length ≤ sizeLine ∧ ∀ y ∈ ys, hasTy y = true) → M.rowOk x := fun x a b => ⟨a, b⟩
  simp_arith!
  rw [wN_eq]
  simp_arith!
  refine ⟨by simp; omega, ?_⟩
  let E0 : Cl → Loca := fun c => [Cl.val (D.frz (ns.map D.int)), Cl.own (D.lst [D.int a, D.int b]), Cl.val (D.tup [D.int t, D.int n]), Cl.val (D.tup [D.int z1, D.int z2]), Cl.val (D.tup [D.int w1, D.int w2]), Cl.val (D.tup [D.int (z1 + t * z2), D.int (-z2)]), Cl.val (D.tup [D.int s1, D.int s2]), c, Cl.val (D.tup [D.int u, D.int v]), Cl.val (D.tup (zs.map pt)), Cl.val (D.tup (ben.map pt)), Cl.val (D.tup (pl.map pt)), .emp, .emp, .emp, .emp, .emp, .emp, .emp, .emp]
  refine forS_ru (fun _ env => ∃ c', env = put (E0 c) 12 c') ⟨_, rfl⟩ ?_ ?_
  · rintro i d env nx hd ⟨c', rfl⟩ hn
    have hm := List.mem_of_getElem? hd
    have hdig : digOk d := by
      have one : ∀ ps : List Pt, ps.length ≤ 1000 → digOk (.tup (ps.map pt)) := fun ps h => dig_pts h
      simp only [List.mem_cons, List.not_mem_nil, or_false] at hm
      rcases hm with rfl | rfl | rfl | rfl | rfl | rfl | rfl | rfl | rfl | rfl | rfl | rfl
      · exact one zs (by omega)
      · rw [← List.map_reverse]; exact one _ (by simp; omega)
      · rw [cut_dl, ← List.map_take]; exact one _ (by simp; omega)
      · rw [show [D.tup [D.int 50, D.int 50]] = [((50, 50) : Pt)].map pt from rfl, ← List.map_append]; exact one _ (by simp; omega)
      · exact one ben (by omega)
      · exact ⟨rfl, fun xs e => by cases e⟩
      · exact ⟨rfl, fun xs e => by cases e⟩
      · exact ⟨rfl, fun xs e => by cases e⟩
      · exact one [(0, 0)] (by decide)
      · exact one [(0, 0), (101, 0)] (by decide)
      · exact ⟨rfl, fun xs e => by
          cases e
          refine ⟨by show 2 ≤ 1000; decide, fun x hx => ?_⟩
          simp only [List.mem_cons, List.not_mem_nil, or_false] at hx
          rcases hx with rfl | rfl
          · exact rk _ _
          · exact M.rowOk_int⟩
      · exact one pl (by omega)
    show wTgt _ _ _ _ _
    simp_arith[E0, sp_is_plane_base, sp__law_is_base, rr, ptD_eq]
    refine ⟨hdig, (t, n), rfl, gr, hdig, ?_⟩
    simp_arith
    exact hn _ ⟨_, rfl⟩
  rintro env ⟨c', rfl⟩
  have digz : digOk (.tup (zs.map pt)) := dig_pts (by omega)
  rw [wN_eq]
  simp_arith![E0]
  refine forS_ru (fun _ env => ∃ c', env = put (E0 c) 12 c') ⟨_, rfl⟩ ?_ ?_
  · rintro i d env nx hd ⟨c', rfl⟩ hn
    have hm := List.mem_of_getElem? hd
    have hrow : M.rowOk d := by
      simp only [List.mem_cons, List.not_mem_nil, or_false] at hm
      rcases hm with rfl | rfl | rfl | rfl | rfl | rfl | rfl | rfl
      all_goals first | exact rk _ _ | exact M.rowOk_non | exact M.rowOk_int | exact M.rowOk_lst | exact M.rowOk_tup.mpr ⟨by simp [sizeLine], by simp [hasTy]⟩
    show wTgt _ _ _ _ _
    simp_arith[E0, sp_is_plane_base, sp__law_is_base, rr, ptD_eq]
    refine ⟨hrow, digz, (t, n), rfl, gr, hrow, digz, ?_⟩
    simp_arith
    exact hn _ ⟨_, rfl⟩
  rintro env ⟨c'', rfl⟩
  have hplm : pl.all (within most) = true := by
    rw [← hpl, List.all_eq_true]
    intro z hz
    obtain ⟨k, hk, rfl⟩ := List.mem_map.mp hz
    rw [List.mem_range] at hk
    unfold most
    exact iw (by omega) (by omega) (by omega) (by omega)
  have eB : baseB (t, n) (.tup [.int u, .int v]) (.tup (pl.map pt)) = baseP (t, n) (u, v) pl := baseB_eq (b := (u, v)) gum hplm
  have digp : digOk (.tup (pl.map pt)) := dig_pts (by omega)
  have hnB : normB (t, n) (u, v) = true := by
    unfold normB
    rw [gu100, decide_eq_true hN1, decide_eq_true (by omega : norm (t, n) (u, v) ≤ 60)]
    rfl
  have rest : ∀ c13, wN (gxOf tx.T tx.ek f_law) (dropS 16 b_law) (put (put (E0 c) 12 c'') 13 c13) (poV P X) := fun c13 => by
    have hne : ¬ (u = 0 ∧ v = 0) := fun ⟨e1, e2⟩ => by
      subst e1 e2
      unfold norm at hN1
      simp at hN1
    have hzl : zs.length ≤ sizeLine := by unfold sizeLine; omega
    simp_all_arith[E0, b_law, dropS]
    refine ⟨(t, n), (u, v), (z1, z2), zs, rfl, rfl, rfl, rfl, gr, gum, hne, hzl, ?_⟩
    simp_arith!
    refine ⟨(t, n), (u, v), (z1, z2), zs, rfl, rfl, rfl, rfl, gr, gum, hne, hzl, ?_⟩
    have fl := flat_step (r := (t, n)) (b := (u, v)) (z := (z1, z2)) zs 0
    simp_arith!
    refine ⟨fl.seen, due_step zs 0, brT fl.same ?_⟩
    have rest2 : wN (gxOf tx.T tx.ek f_law) (dropS 18 b_law) (put (put (E0 c) 12 c'') 13 c13) (poV P X) := by
      simp_all_arith[E0, b_law, dropS]
      refine forS_ru (fun _ env => ∃ c14 c15 c16 c17, env = put (put (put (put (put (put (E0 c) 12 c'') 13 c13) 14 c14) 15 c15) 16 c16) 17 c17) ⟨_, _, _, _, rfl⟩ ?_ ?_
      · rintro i d env nx hd ⟨c14, c15, c16, c17, rfl⟩ hn
        have hm := List.mem_of_getElem? hd
        simp only [List.mem_cons, List.not_mem_nil, or_false] at hm
        cases hrd : ringD d with
        | false =>
          have ckd : ∀ zs, chkS d zs = false := fun zs => by unfold chkS; rw [hrd]; rfl
          rcases hm with rfl | rfl | rfl | rfl | rfl | rfl | rfl | rfl | rfl | rfl | rfl
          all_goals first | exact absurd (hrd.symm.trans gr) (by decide) | exact absurd hrd (by decide) | skip
          all_goals
            refine ⟨rfl, ?_⟩
            simp_arith[E0, sp_is_ring, sp_spot_times, sp_spot_norm, sp_spot_over, sp_plain_digits, ckd, isRing, ringN, ab]
            first | exact hn _ ⟨_, _, _, _, rfl⟩ | exact ⟨mulL (by decide) (by decide), mulL (by decide) (by decide), hn _ ⟨_, _, _, _, rfl⟩⟩
        | true =>
          rcases hm with rfl | rfl | rfl | rfl | rfl | rfl | rfl | rfl | rfl | rfl | rfl
          all_goals first | exact absurd hrd (by decide) | skip
          · have hmx : ((if (if t < 0 then -t else t) < if n < 0 then -n else n then if n < 0 then -n else n else if t < 0 then -t else t) ≤ 20) = True := eq_true (by grind)
            have htt : (t * t < 4 * n) = True := eq_true (rg gr).2.2
            have ir : isRing (.int t) (.int n) = true := gr
            refine ⟨rfl, ?_⟩
            simp_arith[E0, sp_is_ring, ir, hmx, htt]
            exact ⟨mulL (by omega) (by omega), mulL (by omega) (by omega), hn _ ⟨_, _, _, _, rfl⟩⟩
          · refine ⟨rfl, ?_⟩
            simp_arith[E0, sp_is_ring, isRing, ringN, ab]
            exact ⟨mulL (by decide) (by decide), mulL (by decide) (by decide), hn _ ⟨_, _, _, _, rfl⟩⟩
      rintro env ⟨c14, c15, c16, c17, rfl⟩
      simp_all_arith[E0]
      refine forS_ru (fun _ env => ∃ c17 c18, env = put (put (put (put (put (put (put (E0 c) 12 c'') 13 c13) 14 c14) 15 c15) 16 c16) 17 c17) 18 c18) ⟨_, _, rfl⟩ ?_ ?_
      · rintro i d env nx hd ⟨c17, c18, rfl⟩ hn
        have hm := List.mem_of_getElem? hd
        have hrow : M.rowOk d := by
          simp only [List.mem_cons, List.not_mem_nil, or_false] at hm
          rcases hm with rfl | rfl | rfl | rfl | rfl | rfl | rfl | rfl | rfl
          all_goals first | exact rk _ _ | exact M.rowOk_non | exact M.rowOk_int | exact M.rowOk_lst | exact M.rowOk_tup.mpr ⟨by simp [sizeLine], by simp [hasTy]⟩
        show wTgt _ _ _ _ _
        cases hsp : isSpot d with
        | true =>
          simp_arith[E0, sp_is_spot, sp__law_is_spot, hsp, hrow]
          exact hn _ ⟨_, _, rfl⟩
        | false =>
          simp_arith[E0, sp_is_spot, sp__law_is_spot, hsp, sp_spot_times, sp_spot_norm, sp_spot_turned, sp_spot_over, sp_plain_digits, sp_is_gauss_base, ck, ck_z, gz, gw, hrow]
          exact hn _ ⟨_, _, rfl⟩
      rintro env ⟨c17, c18, rfl⟩
      rw [wN_eq]
      have k1 : ∀ zs, chkS .non zs = false := fun zs => rfl
      have k2 : ∀ xs zs, chkS (.lst xs) zs = false := fun xs zs => rfl
      have k3 : normB (t, n) (1, 0) = false := by unfold normB norm; simp
      have k4 : normB (t, n) (40, 40) = false := by
        obtain ⟨-, gt, gn⟩ := ring_g hr
        have : ¬ norm (t, n) (40, 40) ≤ 60 := by
          simp only [rings, List.mem_cons, List.not_mem_nil, or_false, Prod.mk.injEq] at hr
          rcases hr with ⟨rfl, rfl⟩ | ⟨rfl, rfl⟩ | ⟨rfl, rfl⟩ | ⟨rfl, rfl⟩ | ⟨rfl, rfl⟩ | ⟨rfl, rfl⟩ | ⟨rfl, rfl⟩ <;> decide
        unfold normB
        rw [decide_eq_false this, Bool.and_false, Bool.false_and]
      have k5 : ringD .non = false := rfl
      have k6 : within most (1, 0) = true := by decide
      have k7 : within most (40, 40) = true := by decide
      simp_arith[E0, sp_spot_times, sp_spot_norm, sp_plain_digits, sp_is_plane_base, ck, ck_z, gz, gw, ptD_eq, k1, k2, k3, k4, k5, k6, k7]
      exact ⟨digz, hp⟩
    have w31 : within most (-3, -1) = true := by decide
    have ab1 : (ab (-1) = 1) = True := eq_true rfl
    have key1 : s1 < 0 → (decide (s1 ≤ -1) && decide (ab s2 = 1)) = (1 == s2 || -1 == s2) := fun h => by
      rw [decide_eq_true (by omega : s1 ≤ -1), Bool.true_and, Bool.eq_iff_iff]
      simp only [decide_eq_true_eq, Bool.or_eq_true, beq_iff_eq]
      unfold ab
      split <;> omega
    have key2 : ¬ s1 < 0 → (decide (s1 ≤ -1) && decide (ab s2 = 1)) = false := fun h => by
      rw [decide_eq_false (by omega : ¬ s1 ≤ -1), Bool.false_and]
    simp_all_arith[sp_is_gauss_base, ck_z, gs, ptD_eq, w31, ab1]
    exact ⟨fun h => ⟨.inl trivial, fun _ => rest2, fun k => absurd (key1 h) k⟩, fun h => ⟨fun _ => rest2, fun k => absurd (key2 h) k⟩⟩
  have fps : M.Flats (pl.map pt) := M.flats_of fun x hx => by
    obtain ⟨z, _, rfl⟩ := List.mem_map.mp hx
    exact .tup (.cons (.int _) (.cons (.int _) .nil))
  have seenp := fps.seen
  have samep := fps.same
  have duep : ∀ x ∈ pl.map pt, M.Due 2 x := fun x hx => by
    obtain ⟨z, _, rfl⟩ := List.mem_map.mp hx
    exact .tup (by show 2 ≤ sizeLine; decide) (by
        intro y hy
        simp only [List.mem_cons, List.not_mem_nil, or_false] at hy
        rcases hy with rfl | rfl <;> exact .int _ _)
  have pd := plain2 (t := t) (n := n) hr
  rw [wN_eq]
  simp_arith![E0, sp__law_is_base]
  refine ⟨(t, n), rfl, gr, digp, ?_⟩
  simp_arith![eB]
  have w02 : within most (0, 2) = true := by decide
  have w20 : within most (2, 0) = true := by decide
  by_cases e : t = 0 ∧ n = 1
  · have e' : (t = 0 ∧ n = 1) = True := eq_true e
    obtain ⟨h1, h2⟩ := pd.1 e
    refine br2 (fun q => ?_) (fun q => ?_)
    · simp_all_arith[sp_plain_digits, ck, ck_z, gum, ptD_eq, hnB, hpl, q, e', h1, h2, w02]
      exact ⟨seenp, ⟨by simp; omega, duep⟩, fun _ => rest _, fun h => absurd samep h⟩
    · simp_all_arith[sp_plain_digits, ck, ck_z, gum, ptD_eq, hnB, hpl, q, e', h1, h2, w02]
      exact rest _
  · have e' : (t = 0 ∧ n = 1) = False := eq_false e
    obtain ⟨h1, h2⟩ := pd.2 e
    refine br2 (fun q => ?_) (fun q => ?_)
    · simp_all_arith[sp_plain_digits, ck, ck_z, gum, ptD_eq, hnB, hpl, q, e', h1, h2, w20]
      exact ⟨seenp, ⟨by simp; omega, duep⟩, fun _ => rest _, fun h => absurd samep h⟩
    · simp_all_arith[sp_plain_digits, ck, ck_z, gum, ptD_eq, hnB, hpl, q, e', h1, h2, w20]
      exact rest _
end Pd.K42

/-! K42: the head (printed by fin.py). -/
namespace Pd.K42
open L2 PyProof.Rows PySem.Spec PySem
abbrev R : PySem.W.OpenRow := PySem.W.OpenLaw.row PySem.Challenge.rw_radixroads_k42_whole_numbers_and_bases_o
def loose : List PySem.Str := [("Fault" : PySem.Str), ("Malformed" : PySem.Str), ("Refused" : PySem.Str), ("is_integer" : PySem.Str), ("is_whole_row" : PySem.Str), ("MOST_ITEM" : PySem.Str), ("is_ring" : PySem.Str), ("is_spot" : PySem.Str), ("check_spots" : PySem.Str), ("spot_plus" : PySem.Str), ("spot_less" : PySem.Str), ("spot_times" : PySem.Str), ("spot_product" : PySem.Str), ("spot_norm" : PySem.Str), ("spot_turned" : PySem.Str), ("spot_over" : PySem.Str), ("spot_quotient" : PySem.Str), ("is_plane_base" : PySem.Str), ("plain_digits" : PySem.Str), ("plane_step" : PySem.Str), ("is_gauss_base" : PySem.Str), ("_law_state" : PySem.Str), ("_law_take" : PySem.Str), ("_law_says" : PySem.Str), ("_law_is_whole" : PySem.Str), ("_law_same" : PySem.Str), ("_law_told" : PySem.Str), ("_law_all_malformed" : PySem.Str), ("_law_product" : PySem.Str), ("_law_norm" : PySem.Str), ("_law_over_spot" : PySem.Str), ("_law_less" : PySem.Str), ("_law_ring" : PySem.Str), ("_law_plane" : PySem.Str), ("_law_step" : PySem.Str), ("_law_spot" : PySem.Str), ("_law_is_spot" : PySem.Str), ("_law_is_base" : PySem.Str)]
theorem run (w : World) : HandSHeadRun.RunEq R (PySem.W.view R.prog [42]) (tx.hook 5) (tx.ob 5) 4000 loose w := by
  intro os
  kernel_rfl
end Pd.K42

namespace Pd.K42
open L2 PyProof.Rows PySem.Spec PySem
theorem g_all : ∀ f ∈ tx.T, Good tx.T tx.ek f := by
  intro f hf
  simp only [tx, List.mem_cons, List.not_mem_nil, or_false] at hf
  rcases hf with rfl | rfl | rfl | rfl | rfl | rfl | rfl | rfl | rfl | rfl | rfl | rfl | rfl | rfl | rfl | rfl | rfl | rfl | rfl | rfl | rfl | rfl | rfl | rfl | rfl | rfl | rfl | rfl | rfl | rfl | rfl | rfl | rfl | rfl | rfl | rfl | rfl | rfl | rfl | rfl
  · exact g_is_integer
  · exact g_is_whole_row
  · exact g_is_ring
  · exact g_is_spot
  · exact g_check_spots
  · exact g_spot_plus
  · exact g_spot_less
  · exact g_spot_times
  · exact g_spot_product
  · exact g_spot_norm
  · exact g_spot_turned
  · exact g_spot_over
  · exact g_spot_quotient
  · exact g_is_plane_base
  · exact g_plain_digits
  · exact g_plane_step
  · exact g_is_gauss_base
  · exact g__law_state
  · exact g__law_take
  · exact g__law_says
  · exact g__law_is_whole
  · exact g__law_same_v
  · exact g__law_same_0
  · exact g__law_same_1
  · exact g__law_same_2
  · exact g__law_same_3
  · exact g__law_same_4
  · exact g__law_told
  · exact g__law_all_malformed
  · exact g__law_product
  · exact g__law_norm
  · exact g__law_over_spot
  · exact g__law_less
  · exact g__law_ring
  · exact g__law_plane
  · exact g__law_step
  · exact g__law_spot
  · exact g__law_is_spot
  · exact g__law_is_base
  · exact g_law
end Pd.K42
open PySem PySem.W PySem.Calls PyProof.Rows
theorem PySem.Challenge.cw_radixroads_k42_whole_numbers_and_bases_o_holds : PySem.Challenge.rw_radixroads_k42_whole_numbers_and_bases_o.Holds := by
  w_on; o_law
  refine HandSHeadRun.head_any (r := OpenLaw.row PySem.Challenge.rw_radixroads_k42_whole_numbers_and_bases_o) (q := view (OpenLaw.row PySem.Challenge.rw_radixroads_k42_whole_numbers_and_bases_o).prog [42]) (H := Pd.K42.tx.hook 5) (ob := Pd.K42.tx.ob 5) (M := 4000) (loose := Pd.K42.loose) (d := HandSHeadRun.topDef (OpenLaw.row PySem.Challenge.rw_radixroads_k42_whole_numbers_and_bases_o).prog 42) (kwd := []) (Pd.K42.tx.ob_eq 5)
    (by kernel_rfl) (fun s => by kernel_rfl) Pd.K42.run (by kernel_rfl) (by kernel_rfl) (by kernel_rfl) (by rfl) (by first | assumption | decide +kernel) (by decide +kernel) ⟨rfl, rfl, rfl, rfl, rfl, by decide +kernel⟩ ?hw ?hc
  case hw => w_witness2
  case hc =>
    refine LamX.walk_ofTsE (l := PySem.Challenge.rw_radixroads_k42_whole_numbers_and_bases_o) (n := 63) (k := 10) (x := "script") (CX := fun w => L2.CX (PySem.Challenge.rw_radixroads_k42_whole_numbers_and_bases_o).prog w) rfl (by decide) (by kernel_rfl) ⟨rfl, by decide, by decide⟩ ?F (fun w H s e s' z => Pd.noCX z)
    intro w mg fa h Y G hmg0
    obtain ⟨K, KX, c⟩ := Y
    have hmg : mg ("law" : PySem.Str) = some (.ref fa) := by
      have e : (HandSHeadRun.topDef (OpenLaw.row PySem.Challenge.rw_radixroads_k42_whole_numbers_and_bases_o).prog 42).name = ("law" : PySem.Str) := by kernel_rfl
      rw [← e]
      exact hmg0
    exact ⟨K, KX, Pd.law_at (t := Pd.K42.tx) (i := 39) KX G c (by decide) Pd.K42.a_all Pd.K42.x_all Pd.K42.c_all Pd.K42.g_all (by decide) rfl rfl rfl rfl rfl hmg⟩

