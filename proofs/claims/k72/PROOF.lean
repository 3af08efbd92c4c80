import PyProof.Rows.All
import Wide.All
import OpenK.AllK
import Wide.FinOn
import PyProof.EqAt
import PyProof.EqKinds
import PyProof.TupleCall
import HandS.ForMost
import HandS.Walk
import HandS.Evl
import HandS.Deep
import HandS.Style
import HandS.Conv
import HandS.TupAny
import HandS.Wide
import HandS.Zip
import HandS.SortRule
import KE.GoesEnum
import KE.GoesMore
import HandS.Dict
import KE.KDictKeyed
import PySem.Challenge.RW_rootsonaline_k72_whole_pairings_of_webs
set_option Elab.async false
set_option linter.all false
set_option maxRecDepth 100000
set_option maxHeartbeats 8000000
/-! Vl1: data in slots over the abstract heap: what is frozen, what the frame owns; what evaluates to what data. -/
namespace VL
open PySem L2

abbrev D := PyData
abbrev Ex := Evl.Ex

/-! ### data without lists -/
mutual
def lf : PyData → Bool
  | .none => true
  | .bool _ => true
  | .int _ => true
  | .str _ => true
  | .tuple ds => lfs ds
  | .list _ => false
  | .dict _ => false
def lfs : List PyData → Bool
  | [] => true
  | d :: ds => lf d && lfs ds
end
theorem lfs_mem : ∀ {ds : List D}, lfs ds = true → ∀ d ∈ ds, lf d = true
  | [], _, _, h => nomatch h
  | e :: es, h, d, hd => by
    simp only [lfs, Bool.and_eq_true] at h
    rcases List.mem_cons.mp hd with rfl | hd
    · exact h.1
    · exact lfs_mem h.2 d hd
theorem lfs_of : ∀ {ds : List D}, (∀ d ∈ ds, lf d = true) → lfs ds = true
  | [], _ => by simp [lfs]
  | e :: es, h => by
    simp only [lfs, Bool.and_eq_true]
    exact ⟨h e (by simp), lfs_of fun d hd => h d (by simp [hd])⟩
theorem lfs_append {ds es : List D} (h1 : lfs ds = true) (h2 : lfs es = true) : lfs (ds ++ es) = true :=
  lfs_of fun d hd => (List.mem_append.mp hd).elim (lfs_mem h1 d) (lfs_mem h2 d)
theorem lf_int {i : Int} : lf (.int i) = true := by simp [lf]
theorem lf_bool {b : Bool} : lf (.bool b) = true := by simp [lf]
theorem lf_none : lf .none = true := by simp [lf]
theorem lf_str {s : Str} : lf (.str s) = true := by simp [lf]
theorem lf_tuple {ds : List D} (h : lfs ds = true) : lf (.tuple ds) = true := by simpa [lf] using h
theorem lfs_ints (ns : List Int) : lfs (ns.map PyData.int) = true := lfs_of fun d hd => by
  obtain ⟨n, _, rfl⟩ := List.mem_map.mp hd
  exact lf_int

section
variable {K : PySem.W.Frag} {H H' Z Z' : Hp}
mutual
/-- data at a value: lists that H tracks, tuples that are to be read -/
inductive Dq (K : PySem.W.Frag) (H : Hp) : V → PyData → Prop
  | non : Dq K H .non .none
  | bl (b : Bool) : Dq K H (.bl b) (.bool b)
  | int (i : Int) : Dq K H (.int i) (.int i)
  | str (x : Str) : Dq K H (.str x) (.str x)
  | lst {a : Addr} {xs : List V} {ds : List PyData} : H a = some (.lst xs) → Dqs K H xs ds → Dq K H (.ref a) (.list ds)
  | tup {a : Addr} {xs : List V} {ds : List PyData} : SqT K H a xs → Dqs K H xs ds → Dq K H (.ref a) (.tuple ds)
inductive Dqs (K : PySem.W.Frag) (H : Hp) : List V → List PyData → Prop
  | nil : Dqs K H [] []
  | cons {v : V} {vs : List V} {d : PyData} {ds : List PyData} : Dq K H v d → Dqs K H vs ds → Dqs K H (v :: vs) (d :: ds)
end
theorem Dq.dp_all : (∀ (v : V) (d : D), Dq K H v d → Dp K H v d) ∧ (∀ (vs : List V) (ds : List D), Dqs K H vs ds → DpAll K H vs ds) := by
  refine ⟨fun v d h => ?_, fun vs ds h => ?_⟩
  · refine Dq.rec (motive_1 := fun v d _ => Dp K H v d) (motive_2 := fun vs ds _ => DpAll K H vs ds) .non (fun b => .bl b) (fun i => .int i) (fun x => .str x) (fun hs _ ih => .lst (.inl (.inl hs)) ih) (fun hs _ ih => .tup hs ih) .nil (fun _ _ h1 h2 => .cons h1 h2) h
  · refine Dqs.rec (motive_1 := fun v d _ => Dp K H v d) (motive_2 := fun vs ds _ => DpAll K H vs ds) .non (fun b => .bl b) (fun i => .int i) (fun x => .str x) (fun hs _ ih => .lst (.inl (.inl hs)) ih) (fun hs _ ih => .tup hs ih) .nil (fun _ _ h1 h2 => .cons h1 h2) h
theorem dq_dp {v : V} {d : D} (h : Dq K H v d) : Dp K H v d := Dq.dp_all.1 v d h
theorem dqs_dp {vs : List V} {ds : List D} (h : Dqs K H vs ds) : DpAll K H vs ds := Dq.dp_all.2 vs ds h
theorem Dq.mono_all : (∀ (v : V) (d : D), Dq K H v d → Ex H H' → Dq K H' v d) ∧ (∀ (vs : List V) (ds : List D), Dqs K H vs ds → Ex H H' → Dqs K H' vs ds) := by
  refine ⟨fun v d h e => ?_, fun vs ds h e => ?_⟩
  · refine Dq.rec (motive_1 := fun v d _ => Dq K H' v d) (motive_2 := fun vs ds _ => Dqs K H' vs ds) .non (fun b => .bl b) (fun i => .int i) (fun x => .str x) (fun hs _ ih => .lst (e _ _ hs) ih) (fun hs _ ih => .tup (Evl.ex_t e hs) ih) .nil (fun _ _ h1 h2 => .cons h1 h2) h
  · refine Dqs.rec (motive_1 := fun v d _ => Dq K H' v d) (motive_2 := fun vs ds _ => Dqs K H' vs ds) .non (fun b => .bl b) (fun i => .int i) (fun x => .str x) (fun hs _ ih => .lst (e _ _ hs) ih) (fun hs _ ih => .tup (Evl.ex_t e hs) ih) .nil (fun _ _ h1 h2 => .cons h1 h2) h
theorem dq_mono {v : V} {d : D} (h : Dq K H v d) (e : Ex H H') : Dq K H' v d := Dq.mono_all.1 v d h e
theorem dqs_mono {vs : List V} {ds : List D} (h : Dqs K H vs ds) (e : Ex H H') : Dqs K H' vs ds := Dq.mono_all.2 vs ds h e

/-- a tuple, or one that is locked -/
def isTup : HO → Bool
  | .tup _ => true
  | .frz _ (.tup _) => true
  | _ => false
/-- every tuple is kept -/
def TupEx (H H' : Hp) : Prop := ∀ a o, H a = some o → isTup o = true → H' a = some o
theorem TupEx.sqt {a : Addr} {xs : List V} (e : TupEx H H') (h : SqT K H a xs) : SqT K H' a xs := by
  rcases h with (h | ⟨o, h⟩) | h
  · exact .inl (.inl (e _ _ h rfl))
  · exact .inl (.inr ⟨o, e _ _ h rfl⟩)
  · exact .inr h
mutual
theorem lf_dq (e : TupEx H H') : ∀ (d : D) (v : V), lf d = true → Dq K H v d → Dq K H' v d
  | .none, _, _, h => by cases h; exact .non
  | .bool b, _, _, h => by cases h; exact .bl b
  | .int i, _, _, h => by cases h; exact .int i
  | .str x, _, _, h => by cases h; exact .str x
  | .tuple ds, _, l, h => by
    cases h with
    | tup hs ha => exact .tup (e.sqt hs) (lfs_dq e ds _ (by simpa [lf] using l) ha)
  | .list _, _, l, _ => by simp [lf] at l
  | .dict _, _, l, _ => by simp [lf] at l
theorem lfs_dq (e : TupEx H H') : ∀ (ds : List D) (vs : List V), lfs ds = true → Dqs K H vs ds → Dqs K H' vs ds
  | [], _, _, h => by cases h; exact .nil
  | d :: ds, _, l, h => by
    simp only [lfs, Bool.and_eq_true] at l
    cases h with
    | cons h1 h2 => exact .cons (lf_dq e d _ l.1 h1) (lfs_dq e ds _ l.2 h2)
end

theorem dqs_len : ∀ {vs : List V} {ds : List D}, Dqs K H vs ds → vs.length = ds.length
  | _, _, .nil => rfl
  | _, _, .cons _ h => by simp [dqs_len h]
theorem dqs_app : ∀ {vs : List V} {ds : List D} {ws : List V} {es : List D}, Dqs K H vs ds → Dqs K H ws es → Dqs K H (vs ++ ws) (ds ++ es)
  | _, _, _, _, .nil, h => h
  | _, _, _, _, .cons h1 h2, h => .cons h1 (dqs_app h2 h)
theorem dqs_get : ∀ {vs : List V} {ds : List D} {i : Nat} {d : D}, Dqs K H vs ds → ds[i]? = some d → ∃ v, vs[i]? = some v ∧ Dq K H v d
  | _, _, _, _, .nil, e => by simp at e
  | _, _, 0, d, .cons h1 h2, e => by simp at e; subst e; exact ⟨_, rfl, h1⟩
  | _, _, i + 1, d, .cons h1 h2, e => by
    obtain ⟨v, hv, q⟩ := dqs_get (i := i) (d := d) h2 (by simpa using e)
    exact ⟨v, by simpa using hv, q⟩
theorem dqs_getV : ∀ {vs : List V} {ds : List D} {i : Nat} {v : V}, Dqs K H vs ds → vs[i]? = some v → ∃ d, ds[i]? = some d ∧ Dq K H v d
  | _, _, _, _, .nil, e => by simp at e
  | _, _, 0, d, .cons h1 h2, e => by simp at e; subst e; exact ⟨_, rfl, h1⟩
  | _, _, i + 1, d, .cons h1 h2, e => by
    obtain ⟨v, hv, q⟩ := dqs_getV (i := i) (v := d) h2 (by simpa using e)
    exact ⟨v, by simpa using hv, q⟩
theorem dqs_set {v : V} {d : D} (h : Dq K H v d) : ∀ {vs : List V} {ds : List D} (i : Nat), Dqs K H vs ds → Dqs K H (vs.set i v) (ds.set i d)
  | _, _, _, .nil => .nil
  | _, _, 0, .cons h1 h2 => .cons h h2
  | _, _, i + 1, .cons h1 h2 => .cons h1 (dqs_set h i h2)
theorem dqs_take : ∀ {vs : List V} {ds : List D} (n : Nat), Dqs K H vs ds → Dqs K H (vs.take n) (ds.take n)
  | _, _, 0, _ => by simp; exact .nil
  | _, _, n + 1, .nil => by simp; exact .nil
  | _, _, n + 1, .cons h1 h2 => .cons h1 (dqs_take n h2)
theorem dqs_drop : ∀ {vs : List V} {ds : List D} (n : Nat), Dqs K H vs ds → Dqs K H (vs.drop n) (ds.drop n)
  | _, _, 0, h => h
  | _, _, n + 1, .nil => by simp; exact .nil
  | _, _, n + 1, .cons h1 h2 => dqs_drop n h2
theorem dqs_rev {vs : List V} {ds : List D} (h : Dqs K H vs ds) : Dqs K H vs.reverse ds.reverse := by
  induction vs generalizing ds with
  | nil => cases h; exact .nil
  | cons v vs ih =>
    cases h with
    | cons h1 h2 =>
      rw [List.reverse_cons, List.reverse_cons]
      exact dqs_app (ih h2) (.cons h1 .nil)
theorem dqs_ints : ∀ (ns : List Int), Dqs K H (ns.map V.int) (ns.map PyData.int)
  | [] => .nil
  | n :: ns => .cons (.int n) (dqs_ints ns)
theorem dqs_ints_inv : ∀ {ns : List Int} {vs : List V}, Dqs K H vs (ns.map PyData.int) → vs = ns.map V.int
  | [], _, h => by cases h; rfl
  | n :: ns, _, h => by
    cases h with
    | cons h1 h2 => cases h1; rw [dqs_ints_inv h2]; rfl
theorem dq_int {v : V} {i : Int} (h : Dq K H v (.int i)) : v = .int i := by cases h; rfl
theorem dq_bool {v : V} {b : Bool} (h : Dq K H v (.bool b)) : v = .bl b := by cases h; rfl
theorem dq_none {v : V} (h : Dq K H v .none) : v = .non := by cases h; rfl
theorem dq_str {v : V} {x : Str} (h : Dq K H v (.str x)) : v = .str x := by cases h; rfl
theorem dq_tuple {v : V} {ds : List D} (h : Dq K H v (.tuple ds)) : ∃ a xs, v = .ref a ∧ SqT K H a xs ∧ Dqs K H xs ds := by cases h with | tup h1 h2 => exact ⟨_, _, rfl, h1, h2⟩
theorem dq_list {v : V} {ds : List D} (h : Dq K H v (.list ds)) : ∃ a xs, v = .ref a ∧ H a = some (.lst xs) ∧ Dqs K H xs ds := by cases h with | lst h1 h2 => exact ⟨_, _, rfl, h1, h2⟩
end

/-! ### slots -/
/-- a resource of another kind: an object (or some) of the frame's own, told by its own objects alone -/
structure Cu where
  φ : V → List Addr → Hp → Hp → Prop
  st : ∀ v fp Z Z' H H', Ex Z Z' → (∀ a ∈ fp, H' a = H a) → φ v fp Z H → φ v fp Z' H'
  mu : ∀ v fp Z H, φ v fp Z H → ∀ a ∈ fp, ∃ o, H a = some o ∧ isTup o = false
inductive Sl where
  /-- nothing is known -/
  | no
  /-- data that nothing changes -/
  | im (d : D)
  /-- a list of the frame's own, its items data that nothing changes -/
  | ow (ds : List D)
  /-- a list of lists, all of the frame's own -/
  | o2 (dss : List (List D))
  /-- something else of the frame's own -/
  | cu (c : Cu)
abbrev Env := List Sl

inductive Own2 (K : PySem.W.Frag) (Z H : Hp) : List Addr → List (List D) → Prop
  | nil : Own2 K Z H [] []
  | cons {a : Addr} {ls : List Addr} {ds : List D} {dss : List (List D)} {xs : List V} : H a = some (.lst xs) → Dqs K Z xs ds → Own2 K Z H ls dss → Own2 K Z H (a :: ls) (ds :: dss)

def rep (K : PySem.W.Frag) (Z H : Hp) : Sl → Option V → List Addr → Prop
  | .no, _, fp => fp = []
  | .im d, ov, fp => fp = [] ∧ ∃ v, ov = some v ∧ Dq K Z v d
  | .ow ds, ov, fp => ∃ l xs, ov = some (.ref l) ∧ fp = [l] ∧ H l = some (.lst xs) ∧ Dqs K Z xs ds
  | .o2 dss, ov, fp => ∃ l ls, ov = some (.ref l) ∧ fp = l :: ls ∧ fp.Nodup ∧ H l = some (.lst (ls.map V.ref)) ∧ Own2 K Z H ls dss
  | .cu c, ov, fp => ∃ v, ov = some v ∧ c.φ v fp Z H

/-- the state: Z what is frozen (nothing changes it any more), B what was there ahead; each slot's own objects fps i -/
structure Rz (K : PySem.W.Frag) (B Z : Hp) (fps : Nat → List Addr) (env : Env) (σ : St) (H : Hp) : Prop where
  bz : Ex B Z
  zh : Ex Z H
  fr : ∀ i a, a ∈ fps i → Z a = none
  mu : ∀ i a, a ∈ fps i → ∃ o, H a = some o ∧ isTup o = false
  dj : ∀ i j a, a ∈ fps i → a ∈ fps j → i = j
  len : env.length = σ.length
  sl : ∀ i s, env[i]? = some s → rep K Z H s (σ[i]?.join) (fps i)
def R (K : PySem.W.Frag) (B : Hp) (env : Env) (σ : St) (H : Hp) : Prop := ∃ Z fps, Rz K B Z fps env σ H

/-- the heap has grown; so has what is frozen -/
structure Gro (fps : Nat → List Addr) (Z H Z' H' : Hp) : Prop where
  z : Ex Z Z'
  h : Ex H H'
  zh : Ex Z' H'
  fr : ∀ i a, a ∈ fps i → Z' a = none

section
variable {K : PySem.W.Frag} {B B' Z Z' Z2 H H' H2 : Hp} {fps : Nat → List Addr} {env env' : Env} {σ : St}
theorem Gro.trans (a : Gro fps Z H Z' H') (b : Gro fps Z' H' Z2 H2) : Gro fps Z H Z2 H2 := ⟨a.z.trans b.z, a.h.trans b.h, b.zh, b.fr⟩
theorem Rz.gro (r : Rz K B Z fps env σ H) : Gro fps Z H Z H := ⟨Evl.Ex.refl _, Evl.Ex.refl _, r.zh, r.fr⟩
theorem Own2.mono (ez : Ex Z Z') : ∀ {ls : List Addr} {dss : List (List D)}, Own2 K Z H ls dss → (∀ a ∈ ls, H' a = H a) → Own2 K Z' H' ls dss
  | _, _, .nil, _ => .nil
  | _, _, .cons h1 h2 h3, k => .cons (by rw [k _ (by simp)]; exact h1) (dqs_mono h2 ez) (Own2.mono ez h3 fun a ha => k a (by simp [ha]))
theorem Own2.mu : ∀ {ls : List Addr} {dss : List (List D)}, Own2 K Z H ls dss → ∀ a ∈ ls, ∃ o, H a = some o ∧ isTup o = false
  | _, _, .nil, _, h => nomatch h
  | _, _, .cons h1 _ h3, a, h => by
    rcases List.mem_cons.mp h with rfl | h
    · exact ⟨_, h1, rfl⟩
    · exact Own2.mu h3 a h
/-- a slot stays where its own objects stay -/
theorem rep_mono {s : Sl} {ov : Option V} {fp : List Addr} (ez : Ex Z Z') (k : ∀ a ∈ fp, H' a = H a) (h : rep K Z H s ov fp) : rep K Z' H' s ov fp := by
  cases s with
  | no => exact h
  | im d => obtain ⟨e, v, hv, hd⟩ := h; exact ⟨e, v, hv, dq_mono hd ez⟩
  | ow ds =>
    obtain ⟨l, xs, e1, e2, e3, e4⟩ := h
    exact ⟨l, xs, e1, e2, by rw [k l (by simp [e2])]; exact e3, dqs_mono e4 ez⟩
  | o2 dss =>
    obtain ⟨l, ls, e1, e2, en, e3, e4⟩ := h
    exact ⟨l, ls, e1, e2, en, by rw [k l (by simp [e2])]; exact e3, e4.mono ez fun a ha => k a (by simp [e2, ha])⟩
  | cu c => obtain ⟨v, e1, e2⟩ := h; exact ⟨v, e1, c.st v fp Z Z' H H' ez k e2⟩
theorem rep_mu {s : Sl} {ov : Option V} {fp : List Addr} (h : rep K Z H s ov fp) : ∀ a ∈ fp, ∃ o, H a = some o ∧ isTup o = false := by
  cases s with
  | no => intro a ha; rw [show fp = [] from h] at ha; cases ha
  | im d => intro a ha; rw [h.1] at ha; cases ha
  | ow ds =>
    obtain ⟨l, xs, e1, e2, e3, e4⟩ := h
    intro a ha
    rw [e2] at ha
    obtain rfl := List.mem_singleton.mp ha
    exact ⟨_, e3, rfl⟩
  | o2 dss =>
    obtain ⟨l, ls, e1, e2, en, e3, e4⟩ := h
    intro a ha
    rw [e2] at ha
    rcases List.mem_cons.mp ha with rfl | ha
    · exact ⟨_, e3, rfl⟩
    · exact e4.mu a ha
  | cu c => obtain ⟨v, e1, e2⟩ := h; exact c.mu v fp Z H e2
theorem Rz.mono (r : Rz K B Z fps env σ H) (g : Gro fps Z H Z' H') : Rz K B Z' fps env σ H' where
  bz := r.bz.trans g.z
  zh := g.zh
  fr := g.fr
  mu := fun i a ha => by
    obtain ⟨o, e, t⟩ := r.mu i a ha
    exact ⟨o, g.h a o e, t⟩
  dj := r.dj
  len := r.len
  sl := fun i s e => rep_mono g.z (fun a ha => by
    obtain ⟨o, e, t⟩ := r.mu i a ha
    rw [e, g.h a o e]) (r.sl i s e)
theorem R.ex (r : R K B env σ H) : Ex B H := by
  obtain ⟨Z, fps, r⟩ := r
  exact r.bz.trans r.zh
theorem R.base (r : R K B' env σ H) (e : Ex B B') : R K B env σ H := by
  obtain ⟨Z, fps, r⟩ := r
  exact ⟨Z, fps, e.trans r.bz, r.zh, r.fr, r.mu, r.dj, r.len, r.sl⟩
theorem R.of (r : Rz K B Z fps env σ H) : R K B env σ H := ⟨Z, fps, r⟩

/-- all tuples of H are frozen too -/
def tupZ (Z H : Hp) : Hp := fun a => match H a with
  | some o => if isTup o = true then some o else Z a
  | none => Z a
theorem tupZ_gro (r : Rz K B Z fps env σ H) : Gro fps Z H (tupZ Z H) H where
  z := fun a o e => by
    have h := r.zh a o e
    unfold tupZ
    rw [h]
    by_cases t : isTup o = true
    · simp [t]
    · simp [t, e]
  h := Evl.Ex.refl _
  zh := fun a o e => by
    unfold tupZ at e
    cases q : H a with
    | none => rw [q] at e; rw [r.zh a o e] at q; cases q
    | some u =>
      rw [q] at e
      by_cases t : isTup u = true
      · simp [t] at e; rw [e]
      · simp [t] at e; rw [← q]; exact r.zh a o e
  fr := fun i a ha => by
    obtain ⟨o, e, t⟩ := r.mu i a ha
    unfold tupZ
    rw [e]
    simp [t]
    exact r.fr i a ha
theorem tupZ_ex : TupEx H (tupZ Z H) := fun a o e t => by
  unfold tupZ
  rw [e]
  simp [t]
theorem lf_frozen (r : Rz K B Z fps env σ H) {v : V} {d : D} (l : lf d = true) (h : Dq K H v d) : Dq K (tupZ Z H) v d := lf_dq tupZ_ex d v l h
theorem lfs_frozen (r : Rz K B Z fps env σ H) {vs : List V} {ds : List D} (l : lfs ds = true) (h : Dqs K H vs ds) : Dqs K (tupZ Z H) vs ds := lfs_dq tupZ_ex ds vs l h
/-- a new object, frozen -/
theorem Rz.new (r : Rz K B Z fps env σ H) {p : Addr} {o : HO} (n : H p = none) : Gro fps Z H (upd Z p o) (upd H p o) where
  z := Evl.Ex.new (by
    cases e : Z p with
    | none => rfl
    | some u => rw [r.zh p u e] at n; cases n)
  h := Evl.Ex.new n
  zh := fun a u e => by
    by_cases h : a = p
    · subst h; rw [upd_same] at e ⊢; exact e
    · rw [upd_ne h] at e ⊢; exact r.zh a u e
  fr := fun i a ha => by
    obtain ⟨o', e, t⟩ := r.mu i a ha
    rw [upd_ne (ne_of_none e n)]
    exact r.fr i a ha
/-- a new object, not frozen -/
theorem Rz.new0 (r : Rz K B Z fps env σ H) {p : Addr} {o : HO} (n : H p = none) : Gro fps Z H Z (upd H p o) where
  z := Evl.Ex.refl _
  h := Evl.Ex.new n
  zh := fun a u e => Evl.Ex.new n a u (r.zh a u e)
  fr := r.fr
theorem Rz.zn (r : Rz K B Z fps env σ H) {p : Addr} (n : H p = none) : Z p = none := by
  cases e : Z p with
  | none => rfl
  | some u => rw [r.zh p u e] at n; cases n
theorem Rz.bn (r : Rz K B Z fps env σ H) {p : Addr} (n : H p = none) : B p = none := by
  cases e : B p with
  | none => rfl
  | some u => rw [r.zh p u (r.bz p u e)] at n; cases n
/-- a grown heap, whose new objects are left as they are -/
theorem Rz.grow (r : Rz K B Z fps env σ H) (e : Ex H H') : Gro fps Z H Z H' := ⟨Evl.Ex.refl _, e, r.zh.trans e, r.fr⟩

/-- forgetting -/
inductive Fg : Env → Env → Prop
  | nil : Fg [] []
  | same {s : Sl} {e e' : Env} : Fg e e' → Fg (s :: e) (s :: e')
  | drop {s : Sl} {e e' : Env} : Fg e e' → Fg (s :: e) (.no :: e')
theorem Fg.refl : ∀ e : Env, Fg e e
  | [] => .nil
  | s :: e => .same (Fg.refl e)
theorem Fg.trans : ∀ {a b c : Env}, Fg a b → Fg b c → Fg a c
  | _, _, _, .nil, .nil => .nil
  | _, _, _, .same h, .same h' => .same (h.trans h')
  | _, _, _, .same h, .drop h' => .drop (h.trans h')
  | _, _, _, .drop h, .same h' => .drop (h.trans h')
  | _, _, _, .drop h, .drop h' => .drop (h.trans h')
theorem Fg.length : ∀ {a b : Env}, Fg a b → a.length = b.length
  | _, _, .nil => rfl
  | _, _, .same h => by simp [h.length]
  | _, _, .drop h => by simp [h.length]
theorem Fg.get : ∀ {a b : Env} {i : Nat} {s : Sl}, Fg a b → b[i]? = some s → a[i]? = some s ∨ (s = .no ∧ ∃ s', a[i]? = some s')
  | _, _, _, _, .nil, e => by simp at e
  | _, _, 0, s, .same h, e => .inl (by simpa using e)
  | _, _, 0, s, .drop h, e => .inr (by simp at e; exact ⟨e.symm, _, rfl⟩)
  | _, _, i + 1, s, .same h, e => by simpa using h.get (i := i) (s := s) (by simpa using e)
  | _, _, i + 1, s, .drop h, e => by simpa using h.get (i := i) (s := s) (by simpa using e)
theorem R.fg (r : R K B env σ H) (f : Fg env env') : R K B env' σ H := by
  obtain ⟨Z, fps, r⟩ := r
  refine ⟨Z, fun i => match env'[i]? with | some .no => [] | _ => fps i, r.bz, r.zh, fun i a ha => ?_, fun i a ha => ?_, fun i j a hi hj => ?_, by rw [← f.length]; exact r.len, fun i s e => ?_⟩
  · split at ha
    · cases ha
    · exact r.fr i a ha
  · split at ha
    · cases ha
    · exact r.mu i a ha
  · split at hi
    · cases hi
    · split at hj
      · cases hj
      · exact r.dj i j a hi hj
  · rcases f.get e with h | ⟨rfl, s', h⟩
    · have q := r.sl i s h
      simp only [e]
      cases s with
      | no => exact rfl
      | im d => exact q
      | ow ds => exact q
      | o2 ds => exact q
      | cu c => exact q
    · simp only [e]; exact rfl
/-- one's own list is let go: frozen -/
theorem R.freeze (r : R K B env σ H) {i : Nat} {ds : List D} (h : env[i]? = some (.ow ds)) : R K B (env.set i (.im (.list ds))) σ H := by
  obtain ⟨Z, fps, r⟩ := r
  obtain ⟨l, xs, e1, e2, e3, e4⟩ := r.sl i _ h
  have hl : l ∈ fps i := by rw [e2]; simp
  have hZ := r.fr i l hl
  have ez : Ex Z (upd Z l (.lst xs)) := Evl.Ex.new hZ
  refine ⟨upd Z l (.lst xs), fun j => if j = i then [] else fps j, r.bz.trans ez, fun a o e => ?_, fun j a ha => ?_, fun j a ha => ?_, fun j k a hj hk => ?_, by simpa using r.len, fun j s e => ?_⟩
  · by_cases q : a = l
    · subst q; rw [upd_same] at e; rw [← e]; exact e3
    · rw [upd_ne q] at e; exact r.zh a o e
  · split at ha
    · cases ha
    · rename_i q
      rw [upd_ne (fun z => q (r.dj j i a ha (by rw [z]; exact hl)))]
      exact r.fr j a ha
  · split at ha
    · cases ha
    · exact r.mu j a ha
  · split at hj
    · cases hj
    · split at hk
      · cases hk
      · exact r.dj j k a hj hk
  · by_cases q : j = i
    · subst q
      rw [List.getElem?_set_self (List.getElem?_eq_some_iff.mp h).1] at e
      cases e
      refine ⟨by simp, _, e1, .lst upd_same (dqs_mono e4 ez)⟩
    · rw [List.getElem?_set_ne (Ne.symm q)] at e
      simp only [if_neg q]
      exact rep_mono ez (fun _ _ => rfl) (r.sl j s e)
/-- the data that a slot shows -/
def Sl.view : Sl → Option D
  | .im d => some d
  | .ow ds => some (.list ds)
  | .o2 dss => some (.list (dss.map .list))
  | _ => none
theorem Own2.dq (ez : Ex Z H) : ∀ {ls : List Addr} {dss : List (List D)}, Own2 K Z H ls dss → Dqs K H (ls.map V.ref) (dss.map .list)
  | _, _, .nil => .nil
  | _, _, .cons h1 h2 h3 => .cons (.lst h1 (dqs_mono h2 ez)) (Own2.dq ez h3)
theorem Rz.view (r : Rz K B Z fps env σ H) {i : Nat} {s : Sl} {d : D} (h : env[i]? = some s) (hv : s.view = some d) : ∃ v, σ[i]? = some (some v) ∧ Dq K H v d := by
  have q := r.sl i s h
  have j : ∀ v, σ[i]?.join = some v → σ[i]? = some (some v) := fun v e => by
    cases q : σ[i]? with
    | none => rw [q] at e; cases e
    | some w => rw [q] at e; cases w with
      | none => cases e
      | some z => cases e; rfl
  cases s with
  | no => cases hv
  | im d' => cases hv; obtain ⟨_, v, e, hd⟩ := q; exact ⟨v, j v e, dq_mono hd r.zh⟩
  | ow ds => cases hv; obtain ⟨l, xs, e1, e2, e3, e4⟩ := q; exact ⟨.ref l, j _ e1, .lst e3 (dqs_mono e4 r.zh)⟩
  | o2 dss => cases hv; obtain ⟨l, ls, e1, e2, en, e3, e4⟩ := q; exact ⟨.ref l, j _ e1, .lst e3 (e4.dq r.zh)⟩
  | cu c => cases hv
/-- a slot is stored: data that nothing changes -/
theorem Rz.put (r : Rz K B Z fps env σ H) {i : Nat} {v : V} {d : D} (h : Dq K Z v d) : R K B (env.set i (.im d)) (σ.set i (some v)) H := by
  refine ⟨Z, fun j => if j = i then [] else fps j, r.bz, r.zh, fun j a ha => ?_, fun j a ha => ?_, fun j k a hj hk => ?_, by simpa using r.len, fun j s e => ?_⟩
  · split at ha
    · cases ha
    · exact r.fr j a ha
  · split at ha
    · cases ha
    · exact r.mu j a ha
  · split at hj
    · cases hj
    · split at hk
      · cases hk
      · exact r.dj j k a hj hk
  · by_cases q : j = i
    · subst q
      have hl : j < env.length := by
        have := (List.getElem?_eq_some_iff.mp e).1
        simpa using this
      rw [List.getElem?_set_self hl] at e
      cases e
      rw [List.getElem?_set_self (by rw [← r.len]; exact hl)]
      exact ⟨by simp, v, rfl, h⟩
    · rw [List.getElem?_set_ne (Ne.symm q)] at e
      rw [List.getElem?_set_ne (Ne.symm q)]
      simp only [if_neg q]
      exact r.sl j s e
/-- any slot is stored, with its own objects -/
theorem Rz.putOwn (r : Rz K B Z fps env σ H) {i : Nat} {v : V} {s : Sl} {fp : List Addr} (h : rep K Z H s (some v) fp) (hz : ∀ a ∈ fp, Z a = none) (hf : ∀ j a, j ≠ i → a ∈ fp → a ∉ fps j) : R K B (env.set i s) (σ.set i (some v)) H := by
  refine ⟨Z, fun j => if j = i then fp else fps j, r.bz, r.zh, fun j a ha => ?_, fun j a ha => ?_, fun j k a hj hk => ?_, by simpa using r.len, fun j s' e => ?_⟩
  · split at ha
    · exact hz a ha
    · exact r.fr j a ha
  · split at ha
    · exact rep_mu h a ha
    · exact r.mu j a ha
  · split at hj
    · split at hk
      · rename_i q1 q2; rw [q1, q2]
      · rename_i q; exact absurd hk (hf k a q hj)
    · split at hk
      · rename_i q _; exact absurd hj (hf j a q hk)
      · exact r.dj j k a hj hk
  · by_cases q : j = i
    · subst q
      have hl : j < env.length := by
        have := (List.getElem?_eq_some_iff.mp e).1
        simpa using this
      rw [List.getElem?_set_self hl] at e
      cases e
      rw [List.getElem?_set_self (by rw [← r.len]; exact hl)]
      simpa using h
    · rw [List.getElem?_set_ne (Ne.symm q)] at e
      rw [List.getElem?_set_ne (Ne.symm q)]
      simp only [if_neg q]
      exact r.sl j s' e
/-- a slot's own objects are changed -/
theorem Rz.change (r : Rz K B Z fps env σ H) {i : Nat} {s' : Sl} {fp : List Addr} (keep : ∀ a, a ∉ fps i → a ∉ fp → H' a = H a) (h : rep K Z H' s' (σ[i]?.join) fp) (hz : ∀ a ∈ fp, Z a = none) (hf : ∀ j a, j ≠ i → a ∈ fp → a ∉ fps j) : R K B (env.set i s') σ H' := by
  refine ⟨Z, fun j => if j = i then fp else fps j, r.bz, fun a o e => ?_, fun j a ha => ?_, fun j a ha => ?_, fun j k a hj hk => ?_, by simpa using r.len, fun j s e => ?_⟩
  · rw [keep a (fun z => by rw [r.fr i a z] at e; cases e) (fun z => by rw [hz a z] at e; cases e)]
    exact r.zh a o e
  · split at ha
    · exact hz a ha
    · exact r.fr j a ha
  · split at ha
    · exact rep_mu h a ha
    · rename_i q
      rw [keep a (fun z => q (r.dj j i a ha z)) (fun z => hf j a q z ha)]
      exact r.mu j a ha
  · split at hj
    · split at hk
      · rename_i q1 q2; rw [q1, q2]
      · rename_i q; exact absurd hk (hf k a q hj)
    · split at hk
      · rename_i q _; exact absurd hj (hf j a q hk)
      · exact r.dj j k a hj hk
  · by_cases q : j = i
    · subst q
      have hl : j < env.length := by
        have := (List.getElem?_eq_some_iff.mp e).1
        simpa using this
      rw [List.getElem?_set_self hl] at e
      cases e
      simpa using h
    · rw [List.getElem?_set_ne (Ne.symm q)] at e
      simp only [if_neg q]
      exact rep_mono (Evl.Ex.refl _) (fun a ha => keep a (fun z => q (r.dj j i a ha z)) (fun z => hf j a q z ha)) (r.sl j s e)
end
end VL
/-! Vl2: operators of any type in one; what evaluates to what data. -/
namespace VL
open PySem PySem.Spec L2

/-! ### operators, whatever the types -/
section
variable {X : Cx}
def rAddQ (K : PySem.W.Frag) : R2 := fun x y H Q => rI0 (fun i j => .int (i + j)) x y H Q ∨ rCat x y H Q ∨ rCatA K x y H Q
theorem op_addQ : OpR X (binaryOp .Add) (rAddQ X.K) := op_add.or (op_cat.or op_catA)
theorem op_mulI : OpR X (binaryOp .Mult) (rI IntMulOk fun i j => .int (i * j)) := opI fun _ _ _ _ _ _ _ hc q => PyProof.Rows.mul_int q hc
def rMulQ : R2 := fun x y H Q => rI IntMulOk (fun i j => .int (i * j)) x y H Q ∨ rRep x y H Q
theorem op_mulQ : OpR X (binaryOp .Mult) rMulQ := op_mulI.or op_rep
def rInQ (K : PySem.W.Frag) (neg : Bool) : R2 := fun x y H Q => ∃ d ds, Dp K H x d ∧ (Dp K H y (.list ds) ∨ Dp K H y (.tuple ds)) ∧ SeqAt.shaped d = true ∧ SeqAt.shaped (.list ds) = true ∧
  Q (.bl (if neg then !ds.any fun z => PyData.eqv z d else ds.any fun z => PyData.eqv z d)) H
theorem op_inQ (hu : X.A.units + 65 < cLine) : OpR X (compareOp .In) (rInQ X.K false) := by
  intro pins s σ H x y v u Q I rx ry h
  obtain ⟨d, ds, hd, he, sd, se, q⟩ := h
  obtain ⟨as, r1⟩ := Dp.reads I d x v hd rx
  rcases he with he | he
  · obtain ⟨bs, r2⟩ := Dp.reads I (.list ds) y u he ry
    exact SeqAt.in_list_reads r2 r1 (SeqAt.canLay_of_shaped se) (SeqAt.canLay_of_shaped sd) (PyProof.Rows.room_in_shaped sd hu) ⟨.bl _, H, I, rfl, q⟩
  · obtain ⟨bs, r2⟩ := Dp.reads I (.tuple ds) y u he ry
    exact SeqAt.in_tuple_reads r2 r1 (SeqAt.canLay_of_shaped se) (SeqAt.canLay_of_shaped sd) (PyProof.Rows.room_in_shaped sd hu) ⟨.bl _, H, I, rfl, q⟩
theorem op_notInQ (hu : X.A.units + 65 < cLine) : OpR X (compareOp .NotIn) (rInQ X.K true) := by
  intro pins s σ H x y v u Q I rx ry h
  obtain ⟨d, ds, hd, he, sd, se, q⟩ := h
  obtain ⟨as, r1⟩ := Dp.reads I d x v hd rx
  rcases he with he | he
  · obtain ⟨bs, r2⟩ := Dp.reads I (.list ds) y u he ry
    exact SeqAt.notIn_list_reads r2 r1 (SeqAt.canLay_of_shaped se) (SeqAt.canLay_of_shaped sd) (PyProof.Rows.room_in_shaped sd hu) ⟨.bl _, H, I, rfl, q⟩
  · obtain ⟨bs, r2⟩ := Dp.reads I (.tuple ds) y u he ry
    exact SeqAt.notIn_tuple_reads r2 r1 (SeqAt.canLay_of_shaped se) (SeqAt.canLay_of_shaped sd) (PyProof.Rows.room_in_shaped sd hu) ⟨.bl _, H, I, rfl, q⟩
def rIsNQ : R2 := fun x y H Q => y = .non ∧ Q (.bl (decide (x = .non))) H
theorem op_isNQ : OpR X (compareOp .Is) rIsNQ := op_isN
def rNotNQ : R2 := fun x y H Q => y = .non ∧ Q (.bl (!decide (x = .non))) H
theorem op_notNQ : OpR X (compareOp .IsNot) rNotNQ := op_notN
def rSlQ (K : PySem.W.Frag) : V → Option Int → Option Int → Hp → VK → Prop := fun x lo hi H Q => rSlL K x lo hi H Q ∨ rSlA K x lo hi H Q
theorem sl_q : SlR X (rSlQ X.K) := by
  intro pins s σ H x v vl vu lo hi sl Q I rx hs pl pu h
  rcases h with h | h
  · exact sl_list pins s σ H x v vl vu lo hi sl Q I rx hs pl pu h
  · exact sl_tupA pins s σ H x v vl vu lo hi sl Q I rx hs pl pu h
def rLenQ (K : PySem.W.Frag) : List V → Hp → VK → Prop := fun xs H Q => ∃ p ys, xs = [.ref p] ∧ (SqL K H p ys ∨ SqT K H p ys) ∧ Q (.int ys.length) H
theorem call_lenQ : CallR X (.builtin "len") (rLenQ X.K) := call_len_seq
def rListQ (K : PySem.W.Frag) : List V → Hp → VK → Prop := fun xs H Q => ∃ p ys, xs = [.ref p] ∧ (SqL K H p ys ∨ SqT K H p ys) ∧ ∀ l, H l = none → Q (.ref l) (upd H l (.lst ys))
theorem call_listQ : CallR X (.type "list") (rListQ X.K) := call_list_of
def rTupleQ (K : PySem.W.Frag) : List V → Hp → VK → Prop := fun xs H Q => ∃ p ys, xs = [.ref p] ∧ ((SqL K H p ys ∧ ∀ l, H l = none → Q (.ref l) (upd H l (.tup ys))) ∨ (SqT K H p ys ∧ Q (.ref p) H))
theorem call_tupleQ : CallR X (.type "tuple") (rTupleQ X.K) := call_tuple_of
def rMax2Q : List V → Hp → VK → Prop := fun xs H Q => ∃ i j, xs = [.int i, .int j] ∧ Q (.int (if j > i then j else i)) H
theorem call_max2Q (hc : X.calm = true) : CallR X (.builtin "max") rMax2Q := call_max2 hc
def rMin2Q : List V → Hp → VK → Prop := fun xs H Q => ∃ i j, xs = [.int i, .int j] ∧ Q (.int (if j < i then j else i)) H
theorem call_min2Q (hc : X.calm = true) : CallR X (.builtin "min") rMin2Q := call_min2 hc
def rAbsQ : List V → Hp → VK → Prop := fun xs H Q => ∃ i, xs = [.int i] ∧ Q (.int (if i < 0 then -i else i)) H
theorem call_absQ : CallR X (.builtin "abs") rAbsQ := call_abs
def rIntQ : List V → Hp → VK → Prop := fun xs H Q => (∃ i, xs = [.int i] ∧ Q (.int i) H) ∨ ∃ k, xs = [.bl k] ∧ Q (.int (if k then 1 else 0)) H
theorem call_intQ : CallR X (.type "int") rIntQ := call_int1
end

/-! ### what evaluates to what -/
/-- what the slots show -/
def RP (K : PySem.W.Frag) (H : Hp) (env : Env) (σ : St) : Prop := env.length = σ.length ∧ (∀ (i : Nat) (s : Sl) (d : D), env[i]? = some s → s.view = some d → ∃ v, σ[i]? = some (some v) ∧ Dq K H v d) ∧ ∀ (i : Nat) (c : Cu), env[i]? = some (.cu c) → ∃ v fp, σ[i]? = some (some v) ∧ c.φ v fp H H
def EvD (K : PySem.W.Frag) (te : TE) (env : Env) (d : D) : Prop := ∀ σ H, RP K H env σ → ∀ Q : VK, (∀ v H', Ex H H' → Dq K H' v d → Q v H') → te σ H Q
def EvF (K : PySem.W.Frag) (te : TE) (env : Env) (ds : List D) : Prop := ∀ σ H, RP K H env σ → ∀ Q : VK, (∀ p xs H', H p = none → Ex H H' → H' p = some (.lst xs) → Dqs K H' xs ds → Q (.ref p) H') → te σ H Q
def EvB (K : PySem.W.Frag) (tt : TT) (env : Env) (b : Bool) : Prop := ∀ σ H, RP K H env σ → ∀ Q : Bool → Hp → Prop, (∀ H', Ex H H' → Q b H') → tt σ H Q
def EvA (K : PySem.W.Frag) (ta : TA) (env : Env) (ds : List D) : Prop := ∀ σ H, RP K H env σ → ∀ Q : List V → Hp → Prop, (∀ vs H', Ex H H' → Dqs K H' vs ds → Q vs H') → ta σ H Q
def EvO (K : PySem.W.Frag) (to : TO) (env : Env) (o : Option Int) : Prop := ∀ σ H, RP K H env σ → ∀ Q : Option Int → Hp → Prop, (∀ H', Ex H H' → Q o H') → to σ H Q

section
variable {K : PySem.W.Frag} {env : Env} {H H' : Hp} {σ : St} {ta tb te tc : TE} {t u : TT} {tas : TA} {d e f : D} {ds es : List D} {i j k : Int} {a b c : Bool}
theorem RP.mono (r : RP K H env σ) (x : Ex H H') : RP K H' env σ := ⟨r.1, fun i s d h1 h2 => by
  obtain ⟨v, h3, h4⟩ := r.2.1 i s d h1 h2
  exact ⟨v, h3, dq_mono h4 x⟩, fun i c h => by
  obtain ⟨v, fp, h3, h4⟩ := r.2.2 i c h
  exact ⟨v, fp, h3, c.st v fp H H' H H' x (fun a ha => by
    obtain ⟨o, e, _⟩ := c.mu v fp H H h4 a ha
    rw [e, x a o e]) h4⟩⟩
theorem Rz.rp {B Z : Hp} {fps : Nat → List Addr} (r : Rz K B Z fps env σ H) : RP K H env σ := ⟨r.len, fun i s d h1 h2 => r.view h1 h2, fun i c h => by
  obtain ⟨v, e1, e2⟩ := r.sl i _ h
  refine ⟨v, fps i, ?_, c.st v _ Z H H H r.zh (fun _ _ => rfl) e2⟩
  cases q : σ[i]? with
  | none => rw [q] at e1; cases e1
  | some w => rw [q] at e1; cases w with
    | none => cases e1
    | some z => cases e1; rfl⟩
theorem EvF.dd (h : EvF K te env ds) : EvD K te env (.list ds) := fun σ H r Q q => h σ H r Q fun p xs H' _ x hp hd => q _ H' x (.lst hp hd)
theorem EvD.cast (h : EvD K te env d) (x : d = e) : EvD K te env e := x ▸ h
theorem EvF.cast (h : EvF K te env ds) (x : ds = es) : EvF K te env es := x ▸ h
theorem EvB.cast (h : EvB K t env a) (x : a = b) : EvB K t env b := x ▸ h
theorem EvA.cast (h : EvA K tas env ds) (x : ds = es) : EvA K tas env es := x ▸ h

theorem ev_var {n : Nat} {s : Sl} (h : env[n]? = some s) (hv : s.view = some d) : EvD K (tVar n) env d := fun σ H r Q q => by
  obtain ⟨v, h3, h4⟩ := r.2.1 n s d h hv
  exact ⟨v, h3, q v H (Evl.Ex.refl H) h4⟩
theorem ev_int : EvD K (tC (.int i)) env (.int i) := fun _ H _ _ q => q _ H (Evl.Ex.refl H) (.int i)
theorem ev_bl : EvD K (tC (.bl a)) env (.bool a) := fun _ H _ _ q => q _ H (Evl.Ex.refl H) (.bl a)
theorem ev_non : EvD K (tC .non) env .none := fun _ H _ _ q => q _ H (Evl.Ex.refl H) .non
theorem ev_str {x : Str} : EvD K (tC (.str x)) env (.str x) := fun _ H _ _ q => q _ H (Evl.Ex.refl H) (.str x)

/-- two values, then an operation -/
theorem ev_op {r : R2} (ha : EvD K ta env d) (hb : EvD K tb env e) (hr : ∀ H x y, Dq K H x d → Dq K H y e → ∀ Q : VK, (∀ v H', Ex H H' → Dq K H' v f → Q v H') → r x y H Q) : EvD K (tOp r ta tb) env f := fun σ H rp Q q =>
  ha σ H rp _ fun x H1 x1 d1 => hb σ H1 (rp.mono x1) _ fun y H2 x2 d2 => hr H2 x y (dq_mono d1 x2) d2 Q fun v H3 x3 d3 => q v H3 ((x1.trans x2).trans x3) d3
theorem ef_op {r : R2} (ha : EvD K ta env d) (hb : EvD K tb env e) (hr : ∀ H x y, Dq K H x d → Dq K H y e → ∀ Q : VK, (∀ p xs H', H p = none → Ex H H' → H' p = some (.lst xs) → Dqs K H' xs ds → Q (.ref p) H') → r x y H Q) : EvF K (tOp r ta tb) env ds := fun σ H rp Q q =>
  ha σ H rp _ fun x H1 x1 d1 => hb σ H1 (rp.mono x1) _ fun y H2 x2 d2 => hr H2 x y (dq_mono d1 x2) d2 Q fun p xs H3 n x3 h3 d3 => q p xs H3 (Evl.fresh_back x1 (Evl.fresh_back x2 n)) ((x1.trans x2).trans x3) h3 d3
theorem ev_un {r : V → Hp → VK → Prop} (ha : EvD K ta env d) (hr : ∀ H x, Dq K H x d → ∀ Q : VK, (∀ v H', Ex H H' → Dq K H' v f → Q v H') → r x H Q) : EvD K (tUn r ta) env f := fun σ H rp Q q =>
  ha σ H rp _ fun x H1 x1 d1 => hr H1 x d1 Q fun v H3 x3 d3 => q v H3 (x1.trans x3) d3
theorem ev_I0 {g : Int → Int → V} (ha : EvD K ta env (.int i)) (hb : EvD K tb env (.int j)) (hd : ∀ H, Dq K H (g i j) d) : EvD K (tOp (rI0 g) ta tb) env d :=
  ev_op ha hb fun H x y h1 h2 Q q => by
    rw [dq_int h1, dq_int h2]
    exact ⟨i, j, rfl, rfl, q _ H (Evl.Ex.refl H) (hd H)⟩
theorem ev_I {C : Int → Int → Prop} {g : Int → Int → V} (ha : EvD K ta env (.int i)) (hb : EvD K tb env (.int j)) (hc : C i j) (hd : ∀ H, Dq K H (g i j) d) : EvD K (tOp (rI C g) ta tb) env d :=
  ev_op ha hb fun H x y h1 h2 Q q => by
    rw [dq_int h1, dq_int h2]
    exact ⟨i, j, rfl, rfl, hc, q _ H (Evl.Ex.refl H) (hd H)⟩
theorem ev_add (ha : EvD K ta env (.int i)) (hb : EvD K tb env (.int j)) : EvD K (tOp (rAddQ K) ta tb) env (.int (i + j)) :=
  ev_op ha hb fun H x y h1 h2 Q q => by
    rw [dq_int h1, dq_int h2]
    exact .inl ⟨i, j, rfl, rfl, q _ H (Evl.Ex.refl H) (.int _)⟩
theorem ev_sub (ha : EvD K ta env (.int i)) (hb : EvD K tb env (.int j)) : EvD K (tOp (rI0 fun i j => .int (i - j)) ta tb) env (.int (i - j)) := ev_I0 ha hb fun _ => .int _
theorem ev_mulS (ha : EvD K ta env (.int i)) (hb : EvD K tb env (.int j)) (hc : IntMulOk i j) : EvD K (tOp rMulQ ta tb) env (.int (i * j)) :=
  ev_op ha hb fun H x y h1 h2 Q q => by
    rw [dq_int h1, dq_int h2]
    exact .inl ⟨i, j, rfl, rfl, hc, q _ H (Evl.Ex.refl H) (.int _)⟩
theorem ev_mul (ha : EvD K ta env (.int i)) (hb : EvD K tb env (.int j)) (hc : CMulW i j) : EvD K (tOp rMulQ ta tb) env (.int (i * j)) := ev_mulS ha hb hc.ok
theorem ev_fdiv (ha : EvD K ta env (.int i)) (hb : EvD K tb env (.int j)) (hc : CDivW i j) : EvD K (tOp (rI CDivW fun i j => .int (i / j)) ta tb) env (.int (i / j)) := ev_I ha hb hc fun _ => .int _
theorem ev_mod (ha : EvD K ta env (.int i)) (hb : EvD K tb env (.int j)) (hc : 0 < j) : EvD K (tOp (rI (fun _ j => 0 < j) fun i j => .int (i % j)) ta tb) env (.int (i % j)) := ev_I ha hb hc fun _ => .int _
theorem ev_neg (ha : EvD K ta env (.int i)) : EvD K (tUn (rU fun i => .int (-i)) ta) env (.int (-i)) := ev_un ha fun H x h1 Q q => by
  rw [dq_int h1]
  exact ⟨i, rfl, q _ H (Evl.Ex.refl H) (.int _)⟩
theorem ev_lt (ha : EvD K ta env (.int i)) (hb : EvD K tb env (.int j)) : EvD K (tOp (rI0 fun i j => .bl (decide (i < j))) ta tb) env (.bool (decide (i < j))) := ev_I0 ha hb fun _ => .bl _
theorem ev_le (ha : EvD K ta env (.int i)) (hb : EvD K tb env (.int j)) : EvD K (tOp (rI0 fun i j => .bl (decide (i ≤ j))) ta tb) env (.bool (decide (i ≤ j))) := ev_I0 ha hb fun _ => .bl _
theorem ev_gt (ha : EvD K ta env (.int i)) (hb : EvD K tb env (.int j)) : EvD K (tOp (rI0 fun i j => .bl (decide (j < i))) ta tb) env (.bool (decide (j < i))) := ev_I0 ha hb fun _ => .bl _
theorem ev_ge (ha : EvD K ta env (.int i)) (hb : EvD K tb env (.int j)) : EvD K (tOp (rI0 fun i j => .bl (decide (j ≤ i))) ta tb) env (.bool (decide (j ≤ i))) := ev_I0 ha hb fun _ => .bl _
theorem ev_eq (ha : EvD K ta env d) (hb : EvD K tb env e) (h1 : SeqAt.shaped d = true) (h2 : SeqAt.shaped e = true) : EvD K (tOp (rEqD K) ta tb) env (.bool (PyData.eqv d e)) :=
  ev_op ha hb fun H x y q1 q2 Q q => ⟨d, e, dq_dp q1, dq_dp q2, h1, h2, q _ H (Evl.Ex.refl H) (.bl _)⟩
theorem ev_ne (ha : EvD K ta env d) (hb : EvD K tb env e) (h1 : SeqAt.shaped d = true) (h2 : SeqAt.shaped e = true) : EvD K (tOp (rNeD K) ta tb) env (.bool (!PyData.eqv d e)) :=
  ev_op ha hb fun H x y q1 q2 Q q => ⟨d, e, dq_dp q1, dq_dp q2, h1, h2, q _ H (Evl.Ex.refl H) (.bl _)⟩
theorem ev_inL {neg : Bool} (ha : EvD K ta env d) (hb : EvD K tb env (.list ds)) (h1 : SeqAt.shaped d = true) (h2 : SeqAt.shaped (.list ds) = true) :
    EvD K (tOp (rInQ K neg) ta tb) env (.bool (if neg then !ds.any fun z => PyData.eqv z d else ds.any fun z => PyData.eqv z d)) :=
  ev_op ha hb fun H x y q1 q2 Q q => ⟨d, ds, dq_dp q1, .inl (dq_dp q2), h1, h2, q _ H (Evl.Ex.refl H) (.bl _)⟩
theorem ev_inT {neg : Bool} (ha : EvD K ta env d) (hb : EvD K tb env (.tuple ds)) (h1 : SeqAt.shaped d = true) (h2 : SeqAt.shaped (.list ds) = true) :
    EvD K (tOp (rInQ K neg) ta tb) env (.bool (if neg then !ds.any fun z => PyData.eqv z d else ds.any fun z => PyData.eqv z d)) :=
  ev_op ha hb fun H x y q1 q2 Q q => ⟨d, ds, dq_dp q1, .inr (dq_dp q2), h1, h2, q _ H (Evl.Ex.refl H) (.bl _)⟩
def isNone : D → Bool
  | .none => true
  | _ => false
theorem dq_isNone {v : V} (h : Dq K H v d) : decide (v = .non) = isNone d := by
  cases h <;> simp [isNone]
theorem ev_isN (ha : EvD K ta env d) : EvD K (tOp rIsNQ ta (tC .non)) env (.bool (isNone d)) :=
  ev_op ha ev_non fun H x y q1 q2 Q q => ⟨dq_none q2, by rw [dq_isNone q1]; exact q _ H (Evl.Ex.refl H) (.bl _)⟩
theorem ev_notN (ha : EvD K ta env d) : EvD K (tOp rNotNQ ta (tC .non)) env (.bool (!isNone d)) :=
  ev_op ha ev_non fun H x y q1 q2 Q q => ⟨dq_none q2, by rw [dq_isNone q1]; exact q _ H (Evl.Ex.refl H) (.bl _)⟩

/-! tests -/
theorem eb_test (h : EvD K te env (.bool a)) : EvB K (tTest te) env a := fun σ H r Q q => h σ H r _ fun v H' x hd => ⟨a, dq_bool hd, q H' x⟩
theorem eb_val (h : EvD K te env (.bool a)) : EvB K (tB te) env a := fun σ H r Q q => h σ H r _ fun v H' x hd => ⟨a, dq_bool hd, q H' x⟩
theorem eb_and (h1 : EvB K t env a) (h2 : a = true → EvB K u env b) : EvB K (tAnd t u) env (a && b) := fun σ H r Q q => h1 σ H r _ fun H1 x1 => by
  cases a with
  | true => exact h2 rfl σ H1 (r.mono x1) Q fun H2 x2 => q H2 (x1.trans x2)
  | false => exact q H1 x1
theorem eb_or (h1 : EvB K t env a) (h2 : a = false → EvB K u env b) : EvB K (tOr t u) env (a || b) := fun σ H r Q q => h1 σ H r _ fun H1 x1 => by
  cases a with
  | true => exact q H1 x1
  | false => exact h2 rfl σ H1 (r.mono x1) Q fun H2 x2 => q H2 (x1.trans x2)
theorem eb_not (h1 : EvB K t env a) : EvB K (tNot t) env (!a) := fun σ H r Q q => h1 σ H r _ fun H1 x1 => q H1 x1
theorem ev_if (h : EvB K t env b) (h1 : b = true → EvD K ta env d) (h2 : b = false → EvD K tb env d) : EvD K (tIf t ta tb) env d := fun σ H r Q q => h σ H r _ fun H1 x1 => by
  cases b with
  | true => exact h1 rfl σ H1 (r.mono x1) Q fun v H2 x2 => q v H2 (x1.trans x2)
  | false => exact h2 rfl σ H1 (r.mono x1) Q fun v H2 x2 => q v H2 (x1.trans x2)
theorem ev_ite (h : EvB K t env b) (h1 : EvD K ta env d) (h2 : EvD K tb env e) : EvD K (tIf t ta tb) env (if b then d else e) :=
  ev_if h (fun q => by rw [q]; exact h1) (fun q => by rw [q]; exact h2)
theorem ev_iteI (h : EvB K t env b) (h1 : EvD K ta env (.int i)) (h2 : EvD K tb env (.int j)) : EvD K (tIf t ta tb) env (.int (if b then i else j)) :=
  ev_if h (fun q => by rw [q]; exact h1) (fun q => by rw [q]; exact h2)
theorem ev_andV (h1 : EvD K ta env (.bool a)) (h2 : a = true → EvD K tb env (.bool b)) : EvD K (tAndV ta tb) env (.bool (a && b)) := fun σ H r Q q => h1 σ H r _ fun v H1 x1 hd => ⟨a, dq_bool hd, by
  cases a with
  | true => exact h2 rfl σ H1 (r.mono x1) Q fun v H2 x2 => q v H2 (x1.trans x2)
  | false => exact q _ H1 x1 (.bl false)⟩
theorem ev_orV (h1 : EvD K ta env (.bool a)) (h2 : a = false → EvD K tb env (.bool b)) : EvD K (tOrV ta tb) env (.bool (a || b)) := fun σ H r Q q => h1 σ H r _ fun v H1 x1 hd => ⟨a, dq_bool hd, by
  cases a with
  | true => exact q _ H1 x1 (.bl true)
  | false => exact h2 rfl σ H1 (r.mono x1) Q fun v H2 x2 => q v H2 (x1.trans x2)⟩
theorem ev_notV (h1 : EvD K ta env (.bool a)) : EvD K (tNotV ta) env (.bool (!a)) := fun σ H r Q q => h1 σ H r _ fun v H1 x1 hd => ⟨a, dq_bool hd, q _ H1 x1 (.bl _)⟩

/-! argument lists, displays -/
theorem ea_nil : EvA K tNil env [] := fun _ H _ _ q => q [] H (Evl.Ex.refl H) .nil
theorem ea_cons (h : EvD K te env d) (hr : EvA K tas env ds) : EvA K (tCons te tas) env (d :: ds) := fun σ H r _ q =>
  h σ H r _ fun v H1 x1 d1 => hr σ H1 (r.mono x1) _ fun vs H2 x2 d2 => q (v :: vs) H2 (x1.trans x2) (.cons (dq_mono d1 x2) d2)
theorem ev_tup (h : EvA K tas env ds) (hl : ds.length ≤ sizeLine := by first | decide | (simp only [List.length_cons, List.length_nil]; decide)) : EvD K (tTup tas) env (.tuple ds) := fun σ H r _ q =>
  h σ H r _ fun vs H1 x1 d1 => ⟨by rw [dqs_len d1]; exact hl, fun p hp => q _ _ (x1.trans (Evl.Ex.new hp)) (.tup (.inl (.inl upd_same)) (dqs_mono d1 (Evl.Ex.new hp)))⟩
theorem ef_lst (h : EvA K tas env ds) (hl : ds.length ≤ sizeLine := by first | decide | (simp only [List.length_cons, List.length_nil]; decide)) : EvF K (tLst tas) env ds := fun σ H r _ q =>
  h σ H r _ fun vs H1 x1 d1 => ⟨by rw [dqs_len d1]; exact hl, fun p hp => q p vs _ (Evl.fresh_back x1 hp) (x1.trans (Evl.Ex.new hp)) upd_same (dqs_mono d1 (Evl.Ex.new hp))⟩

/-! items, slices -/
theorem dqs_atI {xs : List V} {ds : List D} (h : Dqs K H xs ds) {d : D} (ha : atI ds i = some d) : ∃ v, atI xs i = some v ∧ Dq K H v d := by
  unfold atI at ha ⊢
  rw [dqs_len h]
  cases q : ixN ds.length i with
  | none => rw [q] at ha; cases ha
  | some j => rw [q] at ha; exact dqs_get h ha
theorem ev_ixT (ha : EvD K ta env (.tuple ds)) (hb : EvD K tb env (.int i)) (hi : atI ds i = some d) : EvD K (tOp (rIx K) ta tb) env d :=
  ev_op ha hb fun H x y h1 h2 Q q => by
    obtain ⟨a, xs, rfl, hs, hd⟩ := dq_tuple h1
    obtain ⟨v, hv, hd2⟩ := dqs_atI hd hi
    rw [dq_int h2]
    exact .inr (.inl ⟨a, xs, i, v, rfl, rfl, hs, hv, q v H (Evl.Ex.refl H) hd2⟩)
theorem ev_ixL (ha : EvD K ta env (.list ds)) (hb : EvD K tb env (.int i)) (hi : atI ds i = some d) : EvD K (tOp (rIx K) ta tb) env d :=
  ev_op ha hb fun H x y h1 h2 Q q => by
    obtain ⟨a, xs, rfl, hs, hd⟩ := dq_list h1
    obtain ⟨v, hv, hd2⟩ := dqs_atI hd hi
    rw [dq_int h2]
    exact .inl ⟨a, xs, i, v, rfl, rfl, .inl (.inl hs), hv, q v H (Evl.Ex.refl H) hd2⟩
/-- by a place -/
theorem ev_ixTn {n : Nat} (ha : EvD K ta env (.tuple ds)) (hb : EvD K tb env (.int (n : Int))) (hi : ds[n]? = some d) : EvD K (tOp (rIx K) ta tb) env d := ev_ixT ha hb (atI_nat hi)
theorem ev_ixLn {n : Nat} (ha : EvD K ta env (.list ds)) (hb : EvD K tb env (.int (n : Int))) (hi : ds[n]? = some d) : EvD K (tOp (rIx K) ta tb) env d := ev_ixL ha hb (atI_nat hi)
theorem eo_none : EvO K tNoPart env none := fun _ H _ _ q => q H (Evl.Ex.refl H)
theorem eo_some (h : EvD K te env (.int i)) : EvO K (tPart te) env (some i) := fun σ H r _ q => h σ H r _ fun v H1 x1 d1 => ⟨i, dq_int d1, q H1 x1⟩
def cutD (ds : List D) (lo hi : Option Int) : List D := (ds.drop (HT.sIx ds.length 0 lo)).take (HT.sIx ds.length ds.length hi - HT.sIx ds.length 0 lo)
theorem dqs_cut {xs : List V} {ds : List D} (h : Dqs K H xs ds) (lo hi : Option Int) : Dqs K H (cutV xs lo hi) (cutD ds lo hi) := by
  unfold cutV cutD
  rw [dqs_len h]
  exact dqs_take _ (dqs_drop _ h)
theorem ef_slL {tl th : TO} {lo hi : Option Int} (ha : EvD K ta env (.list ds)) (hl : EvO K tl env lo) (hh : EvO K th env hi) : EvF K (tSl (rSlQ K) ta tl th) env (cutD ds lo hi) := fun σ H r Q q =>
  ha σ H r _ fun x H1 x1 d1 => hl σ H1 (r.mono x1) _ fun H2 x2 => hh σ H2 (r.mono (x1.trans x2)) _ fun H3 x3 => by
    obtain ⟨a, xs, rfl, hs, hd⟩ := dq_list (dq_mono d1 (x2.trans x3))
    exact .inl ⟨a, xs, rfl, .inl (.inl hs), fun p hp => q p _ _ (Evl.fresh_back x1 (Evl.fresh_back x2 (Evl.fresh_back x3 hp))) (((x1.trans x2).trans x3).trans (Evl.Ex.new hp)) upd_same (dqs_mono (dqs_cut hd lo hi) (Evl.Ex.new hp))⟩
theorem ev_slT {tl th : TO} {lo hi : Option Int} (ha : EvD K ta env (.tuple ds)) (hl : EvO K tl env lo) (hh : EvO K th env hi) : EvD K (tSl (rSlQ K) ta tl th) env (.tuple (cutD ds lo hi)) := fun σ H r Q q =>
  ha σ H r _ fun x H1 x1 d1 => hl σ H1 (r.mono x1) _ fun H2 x2 => hh σ H2 (r.mono (x1.trans x2)) _ fun H3 x3 => by
    obtain ⟨a, xs, rfl, hs, hd⟩ := dq_tuple (dq_mono d1 (x2.trans x3))
    refine .inr ⟨a, xs, rfl, hs, fun hw => ?_, fun hw p hp => ?_⟩
    · refine q _ H3 ((x1.trans x2).trans x3) (.tup hs ?_)
      have e : cutD ds lo hi = ds := by
        unfold cutD
        rw [← dqs_len hd, hw.1, hw.2]
        simp [dqs_len hd]
      rw [e]
      exact hd
    · exact q _ _ (((x1.trans x2).trans x3).trans (Evl.Ex.new hp)) (.tup (.inl (.inl upd_same)) (dqs_mono (dqs_cut hd lo hi) (Evl.Ex.new hp)))
theorem ef_revL (ha : EvD K ta env (.list ds)) : EvF K (tRevL K ta) env ds.reverse := fun σ H r Q q =>
  ha σ H r _ fun x H1 x1 d1 => by
    obtain ⟨a, xs, rfl, hs, hd⟩ := dq_list d1
    exact ⟨a, xs, rfl, .inl (.inl hs), fun p hp => q p _ _ (Evl.fresh_back x1 hp) (x1.trans (Evl.Ex.new hp)) upd_same (dqs_mono (dqs_rev hd) (Evl.Ex.new hp))⟩

/-! list + list, list * int, tuple + tuple -/
theorem ef_cat (ha : EvD K ta env (.list ds)) (hb : EvD K tb env (.list es)) (hl : ds.length + es.length ≤ sizeLine) : EvF K (tOp (rAddQ K) ta tb) env (ds ++ es) :=
  ef_op ha hb fun H x y h1 h2 Q q => by
    obtain ⟨a, xs, rfl, hs, hd⟩ := dq_list h1
    obtain ⟨b, ys, rfl, hs2, hd2⟩ := dq_list h2
    exact .inr (.inl ⟨a, b, xs, ys, rfl, rfl, hs, hs2, by rw [dqs_len hd, dqs_len hd2]; exact hl, fun p hp => q p _ _ hp (Evl.Ex.new hp) upd_same (dqs_mono (dqs_app hd hd2) (Evl.Ex.new hp))⟩)
theorem ev_catT (ha : EvD K ta env (.tuple ds)) (hb : EvD K tb env (.tuple es)) (hl : ds.length + es.length ≤ sizeLine) : EvD K (tOp (rAddQ K) ta tb) env (.tuple (ds ++ es)) :=
  ev_op ha hb fun H x y h1 h2 Q q => by
    obtain ⟨a, xs, rfl, hs, hd⟩ := dq_tuple h1
    obtain ⟨b, ys, rfl, hs2, hd2⟩ := dq_tuple h2
    refine .inr (.inr ⟨a, b, xs, ys, rfl, rfl, hs, hs2, by rw [dqs_len hd, dqs_len hd2]; exact hl, fun e => ?_, fun _ e => ?_, fun _ _ p hp => ?_⟩)
    · subst e
      cases hd
      exact q _ H (Evl.Ex.refl H) (.tup hs2 hd2)
    · subst e
      cases hd2
      rw [List.append_nil] at q
      exact q _ H (Evl.Ex.refl H) (.tup hs hd)
    · exact q _ _ (Evl.Ex.new hp) (.tup (.inl (.inl upd_same)) (dqs_mono (dqs_app hd hd2) (Evl.Ex.new hp)))
theorem dqs_rep {xs : List V} {ds : List D} (h : Dqs K H xs ds) : ∀ n : Nat, Dqs K H (List.replicate n xs).flatten (List.replicate n ds).flatten
  | 0 => .nil
  | n + 1 => by
    rw [List.replicate_succ, List.replicate_succ, List.flatten_cons, List.flatten_cons]
    exact dqs_app h (dqs_rep h n)
theorem ef_rep (ha : EvD K ta env (.list ds)) (hb : EvD K tb env (.int k)) (h1 : -(2 ^ 63) ≤ k) (h2 : k < 2 ^ 63) (hl : ds.length * k.toNat ≤ sizeLine) : EvF K (tOp rMulQ ta tb) env (List.replicate k.toNat ds).flatten :=
  ef_op ha hb fun H x y q1 q2 Q q => by
    obtain ⟨a, xs, rfl, hs, hd⟩ := dq_list q1
    rw [dq_int q2]
    exact .inr ⟨a, k, xs, rfl, rfl, hs, h1, h2, by rw [dqs_len hd]; exact hl, fun p hp => q p _ _ hp (Evl.Ex.new hp) upd_same (dqs_mono (dqs_rep hd _) (Evl.Ex.new hp))⟩
/-- [d] * k -/
theorem ef_rep1 (ha : EvD K ta env (.list [d])) (hb : EvD K tb env (.int k)) (h2 : k ≤ 10000000) (h1 : -10000000 ≤ k := by omega) : EvF K (tOp rMulQ ta tb) env (List.replicate k.toNat d) :=
  (ef_rep ha hb (by omega) (by omega) (by show 1 * k.toNat ≤ 2 ^ 24; omega)).cast (by simp [List.flatten_replicate_singleton])

/-! calls of what is built in -/
theorem ev_call1 {r : List V → Hp → VK → Prop} (ha : EvD K ta env d) (hr : ∀ H x, Dq K H x d → ∀ Q : VK, (∀ v H', Ex H H' → Dq K H' v f → Q v H') → r [x] H Q) : EvD K (tCB r (tCons ta tNil)) env f := fun σ H rp Q q =>
  ha σ H rp _ fun x H1 x1 d1 => hr H1 x d1 Q fun v H3 x3 d3 => q v H3 (x1.trans x3) d3
theorem ef_call1 {r : List V → Hp → VK → Prop} (ha : EvD K ta env d) (hr : ∀ H x, Dq K H x d → ∀ Q : VK, (∀ p xs H', H p = none → Ex H H' → H' p = some (.lst xs) → Dqs K H' xs ds → Q (.ref p) H') → r [x] H Q) : EvF K (tCB r (tCons ta tNil)) env ds := fun σ H rp Q q =>
  ha σ H rp _ fun x H1 x1 d1 => hr H1 x d1 Q fun p xs H3 n x3 h3 d3 => q p xs H3 (Evl.fresh_back x1 n) (x1.trans x3) h3 d3
theorem ev_call2 {r : List V → Hp → VK → Prop} (ha : EvD K ta env d) (hb : EvD K tb env e) (hr : ∀ H x y, Dq K H x d → Dq K H y e → ∀ Q : VK, (∀ v H', Ex H H' → Dq K H' v f → Q v H') → r [x, y] H Q) : EvD K (tCB r (tCons ta (tCons tb tNil))) env f := fun σ H rp Q q =>
  ha σ H rp _ fun x H1 x1 d1 => hb σ H1 (rp.mono x1) _ fun y H2 x2 d2 => hr H2 x y (dq_mono d1 x2) d2 Q fun v H3 x3 d3 => q v H3 ((x1.trans x2).trans x3) d3
theorem ev_lenL (ha : EvD K ta env (.list ds)) : EvD K (tCB (rLenQ K) (tCons ta tNil)) env (.int (ds.length : Int)) := ev_call1 ha fun H x h1 Q q => by
  obtain ⟨a, xs, rfl, hs, hd⟩ := dq_list h1
  exact ⟨a, xs, rfl, .inl (.inl (.inl hs)), by rw [dqs_len hd]; exact q _ H (Evl.Ex.refl H) (.int _)⟩
theorem ev_lenT (ha : EvD K ta env (.tuple ds)) : EvD K (tCB (rLenQ K) (tCons ta tNil)) env (.int (ds.length : Int)) := ev_call1 ha fun H x h1 Q q => by
  obtain ⟨a, xs, rfl, hs, hd⟩ := dq_tuple h1
  exact ⟨a, xs, rfl, .inr hs, by rw [dqs_len hd]; exact q _ H (Evl.Ex.refl H) (.int _)⟩
theorem ef_listL (ha : EvD K ta env (.list ds)) : EvF K (tCB (rListQ K) (tCons ta tNil)) env ds := ef_call1 ha fun H x h1 Q q => by
  obtain ⟨a, xs, rfl, hs, hd⟩ := dq_list h1
  exact ⟨a, xs, rfl, .inl (.inl (.inl hs)), fun l hl => q l xs _ hl (Evl.Ex.new hl) upd_same (dqs_mono hd (Evl.Ex.new hl))⟩
theorem ef_listT (ha : EvD K ta env (.tuple ds)) : EvF K (tCB (rListQ K) (tCons ta tNil)) env ds := ef_call1 ha fun H x h1 Q q => by
  obtain ⟨a, xs, rfl, hs, hd⟩ := dq_tuple h1
  exact ⟨a, xs, rfl, .inr hs, fun l hl => q l xs _ hl (Evl.Ex.new hl) upd_same (dqs_mono hd (Evl.Ex.new hl))⟩
theorem ev_tupleL (ha : EvD K ta env (.list ds)) : EvD K (tCB (rTupleQ K) (tCons ta tNil)) env (.tuple ds) := ev_call1 ha fun H x h1 Q q => by
  obtain ⟨a, xs, rfl, hs, hd⟩ := dq_list h1
  exact ⟨a, xs, rfl, .inl ⟨.inl (.inl hs), fun l hl => q _ _ (Evl.Ex.new hl) (.tup (.inl (.inl upd_same)) (dqs_mono hd (Evl.Ex.new hl)))⟩⟩
theorem ev_tupleT (ha : EvD K ta env (.tuple ds)) : EvD K (tCB (rTupleQ K) (tCons ta tNil)) env (.tuple ds) := ev_call1 ha fun H x h1 Q q => by
  obtain ⟨a, xs, rfl, hs, hd⟩ := dq_tuple h1
  exact ⟨a, xs, rfl, .inr ⟨hs, q _ H (Evl.Ex.refl H) (.tup hs hd)⟩⟩
theorem ev_max2 (ha : EvD K ta env (.int i)) (hb : EvD K tb env (.int j)) : EvD K (tCB rMax2Q (tCons ta (tCons tb tNil))) env (.int (max i j)) := ev_call2 ha hb fun H x y h1 h2 Q q => by
  rw [dq_int h1, dq_int h2]
  have e : (if j > i then j else i) = max i j := by split <;> omega
  exact ⟨i, j, rfl, by rw [e]; exact q _ H (Evl.Ex.refl H) (.int _)⟩
theorem ev_min2 (ha : EvD K ta env (.int i)) (hb : EvD K tb env (.int j)) : EvD K (tCB rMin2Q (tCons ta (tCons tb tNil))) env (.int (min i j)) := ev_call2 ha hb fun H x y h1 h2 Q q => by
  rw [dq_int h1, dq_int h2]
  have e : (if j < i then j else i) = min i j := by split <;> omega
  exact ⟨i, j, rfl, by rw [e]; exact q _ H (Evl.Ex.refl H) (.int _)⟩
theorem ev_abs (ha : EvD K ta env (.int i)) : EvD K (tCB rAbsQ (tCons ta tNil)) env (.int (i.natAbs : Int)) := ev_call1 ha fun H x h1 Q q => by
  rw [dq_int h1]
  have e : (if i < 0 then -i else i) = (i.natAbs : Int) := by split <;> omega
  exact ⟨i, rfl, by rw [e]; exact q _ H (Evl.Ex.refl H) (.int _)⟩
theorem ev_intI (ha : EvD K ta env (.int i)) : EvD K (tCB rIntQ (tCons ta tNil)) env (.int i) := ev_call1 ha fun H x h1 Q q => by
  rw [dq_int h1]
  exact .inl ⟨i, rfl, q _ H (Evl.Ex.refl H) (.int _)⟩
theorem ev_intB (ha : EvD K ta env (.bool b)) : EvD K (tCB rIntQ (tCons ta tNil)) env (.int (if b then 1 else 0)) := ev_call1 ha fun H x h1 Q q => by
  rw [dq_bool h1]
  exact .inr ⟨b, rfl, q _ H (Evl.Ex.refl H) (.int _)⟩
theorem ev_sum {ns : List Int} (ha : EvD K ta env (.list (ns.map PyData.int))) : EvD K (tCB (rSum K) (tCons ta tNil)) env (.int ns.sum) := ev_call1 ha fun H x h1 Q q => by
  obtain ⟨a, xs, rfl, hs, hd⟩ := dq_list h1
  rw [dqs_ints_inv hd] at hs
  exact ⟨a, ns, rfl, .inl (.inl hs), q _ H (Evl.Ex.refl H) (.int _)⟩
/-- max of a list of ints: some greatest one -/
theorem ev_maxL {ns : List Int} {m : Int} (ha : EvD K ta env (.list (ns.map PyData.int))) (hm : m ∈ ns) (hg : ∀ y ∈ ns, y ≤ m) : EvD K (tCB (rMax K) (tCons ta tNil)) env (.int m) := ev_call1 ha fun H x h1 Q q => by
  obtain ⟨a, xs, rfl, hs, hd⟩ := dq_list h1
  rw [dqs_ints_inv hd] at hs
  refine ⟨a, ns, rfl, .inl (.inl hs), List.length_pos_of_mem hm, fun m' hm' hg' => ?_⟩
  have e : m' = m := by
    have h1 := hg' m hm
    have h2 := hg m' hm'
    omega
  rw [e]
  exact q _ H (Evl.Ex.refl H) (.int _)
/-- list(range(..)) -/
def EvR (K : PySem.W.Frag) (tr : St → Hp → (Int → Int → Hp → Prop) → Prop) (env : Env) (lo hi : Int) : Prop := ∀ σ H, RP K H env σ → ∀ Q : Int → Int → Hp → Prop, (∀ H', Ex H H' → Q lo hi H') → tr σ H Q
theorem er_1 (ha : EvD K ta env (.int i)) : EvR K (tRg1 ta) env 0 i := fun σ H r Q q => ha σ H r _ fun v H1 x1 d1 => ⟨i, dq_int d1, q H1 x1⟩
theorem er_2 (ha : EvD K ta env (.int i)) (hb : EvD K tb env (.int j)) : EvR K (tRg2 ta tb) env i j := fun σ H r Q q => ha σ H r _ fun v H1 x1 d1 => hb σ H1 (r.mono x1) _ fun w H2 x2 d2 => ⟨i, j, dq_int d1, dq_int d2, q H2 (x1.trans x2)⟩
def rangeD (lo hi : Int) : List D := (List.range (hi - lo).toNat).map fun n => PyData.int (lo + (n : Nat))
theorem dqs_rg {lo hi : Int} : Dqs K H (rgV lo hi) (rangeD lo hi) := by
  unfold rgV rangeD
  induction List.range (hi - lo).toNat with
  | nil => exact .nil
  | cons n ns ih => exact .cons (.int _) ih
theorem ef_listRg {tr : St → Hp → (Int → Int → Hp → Prop) → Prop} {lo hi : Int} (h : EvR K tr env lo hi) (ok : RgOk lo hi) : EvF K (tLstRg tr) env (rangeD lo hi) := fun σ H r Q q =>
  h σ H r _ fun H1 x1 => ⟨ok, fun p hp => q p _ _ (Evl.fresh_back x1 hp) (x1.trans (Evl.Ex.new hp)) upd_same dqs_rg⟩

/-! calls of the program's own defs -/
/-- a promise: data without lists is handed back -/
def spD (K : PySem.W.Frag) (Sig : List D → D → Prop) : Sp := fun vs H Q _ => ∃ ds d, Dqs K H vs ds ∧ Sig ds d ∧ ∀ v H', Ex H H' → Dq K H' v d → Q v H'
/-- a promise: a new list is handed back -/
def spF (K : PySem.W.Frag) (Sig : List D → List D → Prop) : Sp := fun vs H Q _ => ∃ ds es, Dqs K H vs ds ∧ Sig ds es ∧ ∀ p xs H', H p = none → Ex H H' → H' p = some (.lst xs) → Dqs K H' xs es → Q (.ref p) H'
theorem ev_call {Sig : List D → D → Prop} {E : XK} (ha : EvA K tas env ds) (hs : Sig ds d) : EvD K (tCall (spD K Sig) [] E tas) env d := fun σ H r Q q =>
  ha σ H r _ fun vs H1 x1 d1 => ⟨ds, d, by rw [List.append_nil]; exact d1, hs, fun v H2 x2 d2 => q v H2 (x1.trans x2) d2⟩
theorem ef_call {Sig : List D → List D → Prop} {E : XK} (ha : EvA K tas env ds) (hs : Sig ds es) : EvF K (tCall (spF K Sig) [] E tas) env es := fun σ H r Q q =>
  ha σ H r _ fun vs H1 x1 d1 => ⟨ds, es, by rw [List.append_nil]; exact d1, hs, fun p xs H2 n x2 h2 d2 => q p xs H2 (Evl.fresh_back x1 n) (x1.trans x2) h2 d2⟩
end
end VL
/-! Vl3: what is walked (lists and tuples alike, enumerate, zip, ranges), targets, comprehensions. -/
namespace VL
open PySem PySem.Spec L2

/-! ### enumerate of a tuple -/
def ItenT (K : PySem.W.Frag) (a : Addr) : It :=
  ⟨fun i H => ∃ (xs : List V) (x : V), SqT K H a xs ∧ xs[i]? = some x, fun i H v H' => ∃ T x, v = .ref T ∧ H T = none ∧ H' = upd H T (.tup [.int (i : Nat), x]) ∧ ∀ xs, SqT K H a xs → xs[i]? = some x, fun i H => ∃ xs : List V, SqT K H a xs ∧ xs.length ≤ i⟩
theorem turn_enumT {P : Program} {w : World} {K : PySem.W.Frag} {elts : List Expr} {kk : Nat} {tpos : Pos} (a e it : Addr) (hae : a ≠ it) :
    Turn P w K (.Tuple elts kk tpos) (ItenT K a) [e, it] e (fun i h => (∃ old, IsEnum h e it ((i : Nat) : Int) old) ∧ h.IsTupleIter it a i ∧ e ≠ it ∧ e ≠ a) where
  mem := by simp
  obj := fun i h st b hb => by
    obtain ⟨⟨old, he⟩, ⟨o, ho, hc, hd⟩, _⟩ := st
    have e' : b = e ∨ b = it := by simpa using hb
    rcases e' with z | z
    · rw [z]; exact ⟨_, he, fun v q => nomatch q⟩
    · rw [z]; exact ⟨o, ho, fun v q => by rw [hd] at q; cases q⟩
  keep := fun i h h' st k => let ⟨⟨old, he⟩, hi, hne, hna⟩ := st; ⟨⟨old, k e (by simp) _ he⟩, hi.at fun o q => k it (by simp) o q, hne, hna⟩
  item := by
    intro X hP hw hK hc i pins s σ H E I hf st hg
    subst hP hw hK
    obtain ⟨⟨old, he⟩, hit, hne, hna⟩ := st
    obtain ⟨xs, x, hq, hx⟩ := hg
    obtain ⟨its, rv, p, hz⟩ := I.tuple hq
    obtain ⟨u, hu, ru⟩ := rv.get hx
    have hel : e < s.heap.objs.size := Heap.lt_size he
    have hil : it < s.heap.objs.size := by obtain ⟨_, q, _⟩ := hit; exact Heap.lt_size q
    have hi2 : i < its.toArray.size := by
      have := (List.getElem?_eq_some_iff.mp hu).1
      simpa using this
    refine wpAny_pyNext_enum_itemD (Draws.tuple (show X.A.in1.handled = none from I.ok.hd hc) it a hae its.toArray) he ⟨hit, (show s.heap.IsTuple a its.toArray from p)⟩ hi2 hne (by simp [hne, hna]) fun x' h' tk hPx ho hst' hT hsz hk => ?_
    have ex : x' = u := by
      have : its.toArray[i]? = some x' := hPx
      rw [List.getElem?_toArray, hu] at this
      exact (Option.some.inj this).symm
    subst ex
    refine ⟨_, rfl, wpAny_letOwnedTupleGo_enum (s := { s with heap := h', toks := tk + 1 }) ho fun h'' he' sb => ?_⟩
    have hT2 : h''.get? s.heap.objs.size = some { cls := .type "tuple", data := .seq #[.int i tk, x'] } := (sb.2 _ (Nat.ne_of_gt hel)).trans hT
    have new : ObjOk X.prog X.w (upd H s.heap.objs.size (.tup [.int (i : Nat), x])) h'' s.heap.objs.size (.tup [.int (i : Nat), x]) :=
      ⟨by show 2 ≤ sizeLine; decide, [.int i tk, x'], .cons ⟨_, rfl⟩ (.cons ru .nil), ⟨_, hT2, rfl, _, rfl⟩⟩
    have I1 : Inv X pins σ (upd H s.heap.objs.size (.tup [.int (i : Nat), x])) { s with heap := h'', toks := tk + 1 } :=
      I.turnedNew (ch := [e, it]) (fun b ob hb q => (sb.2 b (fun z => hb (by simp [z]))).trans (hk b ob (fun z => hb (by simp [z])) (fun z => hb (by simp [z])) q)) hf (Nat.le_refl _) new
    refine ⟨.ref s.heap.objs.size, _, I1, rfl, ⟨_, x, rfl, I.hok.fresh (Nat.le_refl _), rfl, fun ys hy => by rw [I.tuple_inj hy hq]; exact hx⟩, ⟨⟨x', ?_⟩, hst'.1.at fun o q => (sb.2 it (Ne.symm hne)).trans q, hne, hna⟩, fun b hb => ?_⟩
    · have e1 : ((i + 1 : Nat) : Int) = (i : Int) + 1 := by omega
      rw [e1]; exact he'
    · have hb' : b < s.heap.objs.size := by
        have e' : b = e ∨ b = it := by simpa using hb
        rcases e' with z | z
        · rw [z]; exact hel
        · rw [z]; exact hil
      rw [upd_ne (Nat.ne_of_lt hb')]
      exact (hf b hb).1
  done := by
    intro X hP hw hK hc i pins s σ H E I hf st hg
    subst hP hw hK
    obtain ⟨⟨old, he⟩, hit, hne, hna⟩ := st
    obtain ⟨xs, hq, hx⟩ := hg
    obtain ⟨its, rv, p, hz⟩ := I.tuple hq
    obtain ⟨f0, f1, f2, f3, f4, f5⟩ := hf it (by simp)
    have hl := rv.length
    unfold pyNext
    have hT : s.TypeIs (.ref e) "enumerate" := ⟨_, he, rfl⟩
    refine wpAny_bind (wpAny_attempt (wpAny_callSpecial?_slot (name := Str.ofString "__next__") hT F.slot_enumerate_next
      (wpAny_call_entry F.slot_enumerate_next hT F.entry_enumerate_next ?_ (F.args_enumerate_next_1 _))))
    show wpAny _ _ (field (.ref e) 2 >>= _) _ _ _
    refine wpAny_bind (wpAny_field he rfl (x := .ref it) rfl ?_)
    refine wpAny_bind (wpAny_nextOf_tuple_end (show X.A.in1.handled = none from I.ok.hd hc) hit p (by simp; omega) fun h' x he' hx' => ?_)
    obtain ⟨o, ho, hcx⟩ := hx'
    refine wpAny_bind (wpAny_isInstance (T := "StopIteration") (b := true) ⟨o, ho, hcx⟩ isSubtype_stop ?_)
    exact wpAny_pure ⟨rfl, I.turned (t' := s.toks) (fun b o hb q => he' b o hb q) f0 f1 f3 f4 f5⟩
  self := fun A i s Q E st h => let ⟨⟨_, he⟩, _⟩ := st; wpAny_pyIter_enum he h

set_option maxHeartbeats 4000000 in
theorem meets_enumerate_newB1 {v : Value} {o : Obj} {H : Heap → Prop} (B : Begins v o H) :
    Meets (Builtin.«enumerate.__new__» ⟨[.type "enumerate", v], []⟩) (fun _ R s => H s.heap ∧
      R (.ok (.ret (.ref (s.heap.push o).objs.size))) { s with heap := (s.heap.push o).push { cls := .type "enumerate", data := .fields #[.none, .bool false, .ref s.heap.objs.size, rawInt 0, .none, .none] } }) :=
  .of_wp fun prog w A R s h => by
    obtain ⟨hp, g, d, tk, os⟩ := s; obtain ⟨h1, h⟩ := h
    have hsub := sub_enumerate
    have q1 : ∀ {A' : Around} {E : Value → Shared → Prop} {Q : Value → Shared → Prop}, Q (.ref hp.objs.size) ⟨hp.push o, g, d, tk, os⟩ → wpAny (model prog w) A' (pyIter v) Q E ⟨hp, g, d, tk, os⟩ :=
      fun q => B.iter prog w _ _ ⟨hp, g, d, tk, os⟩ _ h1 q
    wp_walk using q1
    refine wpAny_stack_any fun st => wpAny_pure ?_
    split
    · rename_i c _ _ _ _ _
      cases (c == Value.type "enumerate")
      · wp_walk using q1
        exact ⟨_, rfl, h⟩
      · wp_walk using q1
        exact ⟨_, rfl, h⟩
    · wp_walk using q1
      exact ⟨_, rfl, h⟩
theorem call_enumerate_tuple {prog : Program} {w : World} {A : Around} {E : Value → Shared → Prop} {s : Shared} {l : Addr} {items : Array Value} {Q : Value → Shared → Prop} (hL : s.heap.IsTuple l items)
    (h : ∀ h', IsEnum h' (s.heap.objs.size + 1) s.heap.objs.size 0 .none → h'.IsTupleIter s.heap.objs.size l 0 →
      (∀ b o, s.heap.get? b = some o → h'.get? b = some o) → Q (.ref (s.heap.objs.size + 1)) { s with heap := h' }) :
    wpAny (model prog w) A (call (.type "enumerate") [.ref l]) Q E s := by
  refine callType_new F.called_enumerate (by decide) (F.typeCall_enumerate_1 _) (F.newCall_enumerate_1 _) (fun obj => F.args_object_init_2 obj _) F.entry_enumerate_new
    (meets_enumerate_newB1 (begins_tuple l items)) ⟨hL, ?_⟩
  have hz : (s.heap.push { cls := .type "tuple_iterator", data := .fields #[.ref l, .int 0 0] }).objs.size = s.heap.objs.size + 1 := Heap.size_push ..
  show _ ∧ _
  rw [hz]
  have he : IsEnum ((s.heap.push { cls := .type "tuple_iterator", data := .fields #[.ref l, .int 0 0] }).push
      { cls := .type "enumerate", data := .fields #[.none, .bool false, .ref s.heap.objs.size, rawInt 0, .none, .none] }) (s.heap.objs.size + 1) s.heap.objs.size 0 .none := by
    have := Heap.get?_push_size (s.heap.push { cls := .type "tuple_iterator", data := .fields #[.ref l, .int 0 0] })
      (o := { cls := .type "enumerate", data := .fields #[.none, .bool false, .ref s.heap.objs.size, rawInt 0, .none, .none] }) rfl
    rw [hz] at this; exact this
  exact ⟨⟨_, he, rfl⟩, h _ he ⟨_, Heap.get?_push_of_some _ (Heap.get?_push_size _ rfl), rfl, rfl⟩ fun b o x => Heap.get?_push_of_some _ (Heap.get?_push_of_some _ x)⟩

def iEnumQ (K : PySem.W.Frag) (ta : TA) : TI := fun σ H R => ta σ H fun vs H1 => ∃ a xs, vs = [.ref a] ∧ ((SqL K H1 a xs ∧ R (Ite K a) H1) ∨ (SqT K H1 a xs ∧ R (ItenT K a) H1))
theorem pi_enumQ {X : Cx} {e : Expr} {ta : TA} {p pos tpos : Pos} {elts : List Expr} {kk : Nat} (hg : Gl X "enumerate") (hm : X.mg "enumerate" = none) (ha : PA X [e] ta) (hs : starEach [e] X.env = [(false, eval e X.env)] := by rfl) :
    PI X (.Tuple elts kk tpos) (.Call (.Name "enumerate" p) [e] [] pos) (iEnumQ X.K ta) := by
  refine ⟨fun pins s σ H R I h => ?_⟩
  refine PyProof.Rows.Call_ (ld_blt I hg hm PyProof.Rows.boot_enumerate (PyProof.Rows.callWith_type1 (thn (ha.run pos pins s σ H _ I h) fun us s1 ⟨vs, H1, I1, r1, q1⟩ => ?_) hs rfl))
  obtain ⟨a, xs, ex, q1⟩ := q1
  subst ex
  cases r1 with
  | cons r rr =>
    cases rr
    cases r
    have fp2 : ∀ b, b ∈ [s1.heap.objs.size + 1, s1.heap.objs.size] → FpOk X pins H1 b := fun b hb => by
      have e' : b = s1.heap.objs.size + 1 ∨ b = s1.heap.objs.size := by simpa using hb
      have hle : s1.heap.objs.size ≤ b := by
        rcases e' with z | z
        · rw [z]; exact Nat.le_add_right _ _
        · rw [z]; exact Nat.le_refl _
      exact I1.fpOk hle (I1.hok.fresh hle)
    rcases q1 with ⟨hq, q⟩ | ⟨hq, q⟩
    · obtain ⟨its, rv, p', hz⟩ := I1.list hq
      refine call_enumerate_list p'.isList fun h' he hit hsz hk => wpAny_pyIter_enum he ?_
      have I2 : Inv X pins σ H1 { s1 with heap := h' } := I1.kept (t' := s1.toks) hk
      exact ⟨s1.heap.objs.size + 1, [s1.heap.objs.size + 1, s1.heap.objs.size], _, _, H1, rfl, I2, turn_enum a (s1.heap.objs.size + 1) s1.heap.objs.size, ⟨⟨.none, he⟩, hit, Nat.succ_ne_self _⟩, fp2, q⟩
    · obtain ⟨its, rv, p', hz⟩ := I1.tuple hq
      have hal : a < s1.heap.objs.size := p'.lt
      refine call_enumerate_tuple (items := its.toArray) (show s1.heap.IsTuple a its.toArray from p') fun h' he hit hk => wpAny_pyIter_enum he ?_
      have I2 : Inv X pins σ H1 { s1 with heap := h' } := I1.kept (t' := s1.toks) hk
      exact ⟨s1.heap.objs.size + 1, [s1.heap.objs.size + 1, s1.heap.objs.size], _, _, H1, rfl, I2, turn_enumT a (s1.heap.objs.size + 1) s1.heap.objs.size (Nat.ne_of_lt hal), ⟨⟨.none, he⟩, hit, Nat.succ_ne_self _, Nat.ne_of_gt (Nat.lt_succ_of_lt hal)⟩, fp2, q⟩
/-- for x in e: a list or a tuple -/
def iSeq (K : PySem.W.Frag) (tl : TE) : TI := fun σ H R => tl σ H fun x H1 => ∃ a xs, x = .ref a ∧ ((SqL K H1 a xs ∧ R (Itl K a) H1) ∨ (SqT K H1 a xs ∧ R (Itt K a) H1))
theorem pi_seq {X : Cx} {tg l : Expr} {tl : TE} (hl : PE X l tl) : PI X tg l (iSeq X.K tl) := by
  refine ⟨fun pins s σ H R I h => ?_⟩
  refine thn (hl.run pins s σ H _ I h) fun v s1 ⟨x, H1, I1, r1, q1⟩ => ?_
  obtain ⟨a, xs, e, q⟩ := q1
  subst e
  cases r1
  rcases q with ⟨hq, q⟩ | ⟨hq, q⟩
  · obtain ⟨its, rv, p, hz⟩ := I1.list hq
    refine wpAny_pyIter_list p.isList ?_
    refine ⟨s1.heap.objs.size, [s1.heap.objs.size], _, _, H1, rfl, I1.kept (t' := s1.toks) fun b o e => Heap.get?_push_of_some _ e, turn_list a _, ⟨_, Heap.get?_push_size _ rfl, rfl, rfl⟩, fun b hb => ?_, q⟩
    have e : b = s1.heap.objs.size := by simpa using hb
    subst e
    exact I1.fpOk (Nat.le_refl _) (I1.hok.fresh (Nat.le_refl _))
  · obtain ⟨its, rv, p, hz⟩ := I1.tuple hq
    refine wpAny_pyIter_tuple (show s1.heap.IsTuple a its.toArray from p) ?_
    refine ⟨s1.heap.objs.size, [s1.heap.objs.size], _, _, H1, rfl, I1.kept (t' := s1.toks) fun b o e => Heap.get?_push_of_some _ e, turn_tuple a _, ⟨_, Heap.get?_push_size _ rfl, rfl, rfl⟩, fun b hb => ?_, q⟩
    have e : b = s1.heap.objs.size := by simpa using hb
    subst e
    exact I1.fpOk (Nat.le_refl _) (I1.hok.fresh (Nat.le_refl _))

/-! ### what is walked, as data -/
/-- while S stands, the walk gives the items ds one by one -/
structure ItOk (K : PySem.W.Frag) (S : Hp) (J : It) (ds : List D) : Prop where
  goes : ∀ i H, i < ds.length → Ex S H → J.go i H
  stops : ∀ H, Ex S H → J.stop ds.length H
  yields : ∀ i H x H', i < ds.length → Ex S H → J.yld i H x H' → ∃ d, ds[i]? = some d ∧ ((H' = H ∧ Dq K S x d) ∨ (∃ T us es, x = .ref T ∧ H T = none ∧ H' = upd H T (.tup us) ∧ d = .tuple es ∧ Dqs K S us es))
section
variable {K : PySem.W.Frag} {S S' : Hp} {a b : Addr} {xs ys : List V} {ds es : List D} {J : It}
theorem ItOk.mono (h : ItOk K S J ds) (e : Ex S S') : ItOk K S' J ds :=
  ⟨fun i H hi x => h.goes i H hi (e.trans x), fun H x => h.stops H (e.trans x), fun i H x H' hi z y => by
    obtain ⟨d, hd, q⟩ := h.yields i H x H' hi (e.trans z) y
    refine ⟨d, hd, q.imp (fun ⟨a, b⟩ => ⟨a, dq_mono b e⟩) fun ⟨T, us, es, a, b, c, f, g⟩ => ⟨T, us, es, a, b, c, f, dqs_mono g e⟩⟩⟩
theorem itok_listS (h : SqL K S a xs) (hd : Dqs K S xs ds) : ItOk K S (Itl K a) ds := by
  have w := walk_list (K := K) (a := a) (xs := xs)
  have g : ∀ H, Ex S H → SqL K H a xs := fun H e => Evl.ex_l e h
  rw [dqs_len hd] at w
  refine ⟨fun i H hi e => w.goes i H hi (g H e), fun H e => w.stops H (g H e), fun i H x H' hi e y => ?_⟩
  obtain ⟨e1, e2⟩ := w.yields i H x H' hi (g H e) y
  obtain ⟨d, h1, h2⟩ := dqs_getV hd e2
  exact ⟨d, h1, .inl ⟨e1, h2⟩⟩
theorem itok_list (h : S a = some (.lst xs)) (hd : Dqs K S xs ds) : ItOk K S (Itl K a) ds := itok_listS (.inl (.inl h)) hd
theorem itok_tup (h : SqT K S a xs) (hd : Dqs K S xs ds) : ItOk K S (Itt K a) ds := by
  have w := walk_tup (K := K) (a := a) (xs := xs)
  have g : ∀ H, Ex S H → SqT K H a xs := fun H e => Evl.ex_t e h
  rw [dqs_len hd] at w
  refine ⟨fun i H hi e => w.goes i H hi (g H e), fun H e => w.stops H (g H e), fun i H x H' hi e y => ?_⟩
  obtain ⟨e1, e2⟩ := w.yields i H x H' hi (g H e) y
  obtain ⟨d, h1, h2⟩ := dqs_getV hd e2
  exact ⟨d, h1, .inl ⟨e1, h2⟩⟩
def enumD (ds : List D) : List D := ds.zipIdx.map fun p => .tuple [.int (p.2 : Nat), p.1]
theorem enumD_len : (enumD ds).length = ds.length := by simp [enumD]
theorem enumD_get {i : Nat} {d : D} (h : ds[i]? = some d) : (enumD ds)[i]? = some (.tuple [.int (i : Nat), d]) := by
  simp [enumD, List.getElem?_map, List.getElem?_zipIdx, h]
theorem itok_enum (h : S a = some (.lst xs)) (hd : Dqs K S xs ds) : ItOk K S (Ite K a) (enumD ds) := by
  have w := walk_enum (K := K) (a := a) (xs := xs)
  have g : ∀ H, Ex S H → SqL K H a xs := fun H e => .inl (.inl (e _ _ h))
  rw [dqs_len hd, ← enumD_len] at w
  refine ⟨fun i H hi e => w.goes i H hi (g H e), fun H e => w.stops H (g H e), fun i H x H' hi e y => ?_⟩
  obtain ⟨T, u, v, e1, e2, e3, e4, e5⟩ := w.yields i H x H' hi (g H e) y
  obtain ⟨d, h1, h2⟩ := dqs_getV hd e5
  cases e4
  exact ⟨_, enumD_get h1, .inr ⟨T, _, _, e1, e2, e3, rfl, .cons (.int _) (.cons h2 .nil)⟩⟩
theorem itok_enumT (h : SqT K S a xs) (hd : Dqs K S xs ds) : ItOk K S (ItenT K a) (enumD ds) := by
  have g : ∀ H, Ex S H → SqT K H a xs := fun H e => Evl.ex_t e h
  have hl := dqs_len hd
  refine ⟨fun i H hi e => ?_, fun H e => ⟨xs, g H e, by rw [enumD_len]; omega⟩, fun i H x H' hi e y => ?_⟩
  · rw [enumD_len, ← hl] at hi
    exact ⟨xs, xs[i], g H e, by simp [hi]⟩
  · obtain ⟨T, v, e1, e2, e3, e4⟩ := y
    obtain ⟨d, h1, h2⟩ := dqs_getV hd (e4 xs (g H e))
    exact ⟨_, enumD_get h1, .inr ⟨T, _, _, e1, e2, e3, rfl, .cons (.int _) (.cons h2 .nil)⟩⟩
def zipD (ds es : List D) : List D := (ds.zip es).map fun p => .tuple [p.1, p.2]
theorem zipD_len : (zipD ds es).length = min ds.length es.length := by simp [zipD]
theorem zipD_get {i : Nat} {d e : D} (h : ds[i]? = some d) (h' : es[i]? = some e) : (zipD ds es)[i]? = some (.tuple [d, e]) := by
  have e : (ds.zip es)[i]? = some (d, e) := by rw [List.getElem?_zip_eq_some]; exact ⟨h, h'⟩
  simp [zipD, List.getElem?_map, e]
theorem itok_zipL (h : S a = some (.lst xs)) (h' : S b = some (.lst ys)) (hd : Dqs K S xs ds) (hd' : Dqs K S ys es) : ItOk K S (Itz K a b) (zipD ds es) := by
  have w := walk_zip (K := K) (a := a) (b := b) (xs := xs) (ys := ys) rfl
  have g : ∀ H, Ex S H → SqL K H a xs ∧ SqL K H b ys := fun H e => ⟨.inl (.inl (e _ _ h)), .inl (.inl (e _ _ h'))⟩
  rw [dqs_len hd, dqs_len hd', ← zipD_len] at w
  refine ⟨fun i H hi e => w.goes i H hi (g H e), fun H e => w.stops H (g H e), fun i H x H' hi e y => ?_⟩
  obtain ⟨T, u, v, e1, e2, e3, e4, e5⟩ := w.yields i H x H' hi (g H e) y
  obtain ⟨d, h1, h2⟩ := dqs_getV hd e4
  obtain ⟨d', h1', h2'⟩ := dqs_getV hd' e5
  exact ⟨_, zipD_get h1 h1', .inr ⟨T, _, _, e1, e2, e3, rfl, .cons h2 (.cons h2' .nil)⟩⟩
theorem itok_zipT (h : SqT K S a xs) (h' : SqT K S b ys) (hd : Dqs K S xs ds) (hd' : Dqs K S ys es) : ItOk K S (RZ.ItzT K a b) (zipD ds es) := by
  have g : ∀ H, Ex S H → SqT K H a xs ∧ SqT K H b ys := fun H e => ⟨Evl.ex_t e h, Evl.ex_t e h'⟩
  have hl := dqs_len hd
  have hl' := dqs_len hd'
  refine ⟨fun i H hi e => ?_, fun H e => ⟨xs, ys, (g H e).1, (g H e).2, by rw [zipD_len]; omega⟩, fun i H x H' hi e y => ?_⟩
  · rw [zipD_len] at hi
    have h1 : i < xs.length := by omega
    have h2 : i < ys.length := by omega
    exact ⟨xs, ys, xs[i], ys[i], (g H e).1, (g H e).2, by simp [h1], by simp [h2]⟩
  · obtain ⟨T, u, v, e1, e2, e3, e4, e5⟩ := y
    obtain ⟨d, h1, h2⟩ := dqs_getV hd (e4 xs (g H e).1)
    obtain ⟨d', h1', h2'⟩ := dqs_getV hd' (e5 ys (g H e).2)
    exact ⟨_, zipD_get h1 h1', .inr ⟨T, _, _, e1, e2, e3, rfl, .cons h2 (.cons h2' .nil)⟩⟩
theorem rangeD_len {lo hi : Int} : (rangeD lo hi).length = (hi - lo).toNat := by simp [rangeD]
theorem rangeD_get {lo hi : Int} {i : Nat} (h : i < (hi - lo).toNat) : (rangeD lo hi)[i]? = some (.int (lo + (i : Nat))) := by
  simp [rangeD, List.getElem?_map, List.getElem?_range h]
theorem itok_rng {lo hi : Int} : ItOk K S (Itr lo (hi - lo).toNat) (rangeD lo hi) := by
  have w := walk_range (lo := lo) (n := (hi - lo).toNat)
  refine ⟨fun i H hi' e => w.goes i H (by rw [rangeD_len] at hi'; exact hi') trivial, fun H e => by rw [rangeD_len]; exact w.stops H trivial, fun i H x H' hi' e y => ?_⟩
  rw [rangeD_len] at hi'
  obtain ⟨e1, e2⟩ := w.yields i H x H' hi' trivial y
  exact ⟨_, rangeD_get hi', .inl ⟨e1, by rw [e2]; exact .int _⟩⟩
end

/-! ### values that are frozen -/
def EvZ (K : PySem.W.Frag) (te : TE) (env : Env) (d : D) : Prop := ∀ B Z fps σ H, Rz K B Z fps env σ H → ∀ Q : VK, (∀ v Z' H', Gro fps Z H Z' H' → Dq K Z' v d → Q v H') → te σ H Q
def EvAZ (K : PySem.W.Frag) (ta : TA) (env : Env) (ds : List D) : Prop := ∀ B Z fps σ H, Rz K B Z fps env σ H → ∀ Q : List V → Hp → Prop, (∀ vs Z' H', Gro fps Z H Z' H' → Dqs K Z' vs ds → Q vs H') → ta σ H Q
/-- a walk, over what the heap shows | over what is frozen -/
def EvIt (K : PySem.W.Frag) (wi : TI) (env : Env) (ds : List D) : Prop := ∀ σ H, RP K H env σ → ∀ Rr : It → Hp → Prop, (∀ J H', Ex H H' → ItOk K H' J ds → Rr J H') → wi σ H Rr
def EvItZ (K : PySem.W.Frag) (wi : TI) (env : Env) (ds : List D) : Prop := ∀ B Z fps σ H, Rz K B Z fps env σ H → ∀ Rr : It → Hp → Prop, (∀ J Z' H', Gro fps Z H Z' H' → ItOk K Z' J ds → Rr J H') → wi σ H Rr
section
variable {K : PySem.W.Frag} {env : Env} {B Z Z' H H' : Hp} {fps : Nat → List Addr} {σ : St} {ta tb te : TE} {tas : TA} {d e : D} {ds es : List D} {i j : Int}
theorem Rz.lf_gro (r : Rz K B Z fps env σ H) (x : Ex H H') {v : V} (l : lf d = true) (h : Dq K H' v d) : ∃ Z', Gro fps Z H Z' H' ∧ Dq K Z' v d := by
  have g := r.grow x
  have r2 := r.mono g
  exact ⟨_, g.trans (tupZ_gro r2), lf_frozen r2 l h⟩
theorem Rz.lfs_gro (r : Rz K B Z fps env σ H) (x : Ex H H') {vs : List V} (l : lfs ds = true) (h : Dqs K H' vs ds) : ∃ Z', Gro fps Z H Z' H' ∧ Dqs K Z' vs ds ∧ ∀ p xs, H' p = some (.lst xs) → Z' p = Z p := by
  have g := r.grow x
  have r2 := r.mono g
  refine ⟨_, g.trans (tupZ_gro r2), lfs_frozen r2 l h, fun p xs e => ?_⟩
  unfold tupZ
  rw [e]
  rfl
theorem ez_lf (h : EvD K te env d) (l : lf d = true) : EvZ K te env d := fun B Z fps σ H r Q q => h σ H r.rp Q fun v H' x hd => by
  obtain ⟨Z', g, hz⟩ := r.lf_gro x l hd
  exact q v Z' H' g hz
theorem ez_im {n : Nat} (h : env[n]? = some (.im d)) : EvZ K (tVar n) env d := fun B Z fps σ H r Q q => by
  obtain ⟨_, v, hv, hd⟩ := r.sl n _ h
  have j : σ[n]? = some (some v) := by
    cases q : σ[n]? with
    | none => rw [q] at hv; cases hv
    | some w => rw [q] at hv; cases w with
      | none => cases hv
      | some z => cases hv; rfl
  exact ⟨v, j, q v Z H r.gro hd⟩
theorem ez_f (h : EvF K te env ds) (l : lfs ds = true) : EvZ K te env (.list ds) := fun B Z fps σ H r Q q => h σ H r.rp Q fun p xs H' n x hp hd => by
  obtain ⟨Z', g, hz, hk⟩ := r.lfs_gro x l hd
  have zn : Z' p = none := by rw [hk p xs hp]; exact r.zn n
  have ez : Ex Z' (upd Z' p (.lst xs)) := Evl.Ex.new zn
  refine q _ (upd Z' p (.lst xs)) H' ⟨g.z.trans ez, g.h, fun a o e => ?_, fun i a ha => ?_⟩ (.lst upd_same (dqs_mono hz ez))
  · by_cases c : a = p
    · subst c; rw [upd_same] at e; rw [← e]; exact hp
    · rw [upd_ne c] at e; exact g.zh a o e
  · obtain ⟨o, e, t⟩ := r.mu i a ha
    rw [upd_ne (ne_of_none e n)]
    exact g.fr i a ha
theorem EvZ.cast (h : EvZ K te env d) (x : d = e) : EvZ K te env e := x ▸ h
theorem eaz_nil : EvAZ K tNil env [] := fun B Z fps σ H r Q q => q [] Z H r.gro .nil
theorem eaz_cons (h : EvZ K te env d) (hr : EvAZ K tas env ds) : EvAZ K (tCons te tas) env (d :: ds) := fun B Z fps σ H r _ q =>
  h B Z fps σ H r _ fun v Z1 H1 g1 d1 => hr B Z1 fps σ H1 (r.mono g1) _ fun vs Z2 H2 g2 d2 => q (v :: vs) Z2 H2 (g1.trans g2) (.cons (dq_mono d1 g2.z) d2)

theorem ei_list (h : EvD K te env (.list ds)) : EvIt K (iSeq K te) env ds := fun σ H r Rr q => h σ H r _ fun v H1 x1 d1 => by
  obtain ⟨a, xs, rfl, hs, hd⟩ := dq_list d1
  exact ⟨a, xs, rfl, .inl ⟨.inl (.inl hs), q _ H1 x1 (itok_list hs hd)⟩⟩
theorem ei_tup (h : EvD K te env (.tuple ds)) : EvIt K (iSeq K te) env ds := fun σ H r Rr q => h σ H r _ fun v H1 x1 d1 => by
  obtain ⟨a, xs, rfl, hs, hd⟩ := dq_tuple d1
  exact ⟨a, xs, rfl, .inr ⟨hs, q _ H1 x1 (itok_tup hs hd)⟩⟩
theorem ei_enumL (h : EvD K te env (.list ds)) : EvIt K (iEnumQ K (tCons te tNil)) env (enumD ds) := fun σ H r Rr q => h σ H r _ fun v H1 x1 d1 => by
  obtain ⟨a, xs, rfl, hs, hd⟩ := dq_list d1
  exact ⟨a, xs, rfl, .inl ⟨.inl (.inl hs), q _ H1 x1 (itok_enum hs hd)⟩⟩
theorem ei_enumT (h : EvD K te env (.tuple ds)) : EvIt K (iEnumQ K (tCons te tNil)) env (enumD ds) := fun σ H r Rr q => h σ H r _ fun v H1 x1 d1 => by
  obtain ⟨a, xs, rfl, hs, hd⟩ := dq_tuple d1
  exact ⟨a, xs, rfl, .inr ⟨hs, q _ H1 x1 (itok_enumT hs hd)⟩⟩
theorem ei_zipL (h : EvD K ta env (.list ds)) (h' : EvD K tb env (.list es)) : EvIt K (RZ.iZipA K (tCons ta (tCons tb tNil))) env (zipD ds es) := fun σ H r Rr q => h σ H r _ fun v H1 x1 d1 => h' σ H1 (r.mono x1) _ fun w H2 x2 d2 => by
  obtain ⟨a, xs, rfl, hs, hd⟩ := dq_list (dq_mono d1 x2)
  obtain ⟨b, ys, rfl, hs', hd'⟩ := dq_list d2
  exact ⟨a, b, xs, ys, rfl, .inl ⟨.inl (.inl hs), .inl (.inl hs'), q _ H2 (x1.trans x2) (itok_zipL hs hs' hd hd')⟩⟩
theorem ei_zipT (h : EvD K ta env (.tuple ds)) (h' : EvD K tb env (.tuple es)) : EvIt K (RZ.iZipA K (tCons ta (tCons tb tNil))) env (zipD ds es) := fun σ H r Rr q => h σ H r _ fun v H1 x1 d1 => h' σ H1 (r.mono x1) _ fun w H2 x2 d2 => by
  obtain ⟨a, xs, rfl, hs, hd⟩ := dq_tuple (dq_mono d1 x2)
  obtain ⟨b, ys, rfl, hs', hd'⟩ := dq_tuple d2
  exact ⟨a, b, xs, ys, rfl, .inr ⟨hs, hs', q _ H2 (x1.trans x2) (itok_zipT hs hs' hd hd')⟩⟩
theorem ei_rng1 (h : EvD K te env (.int i)) (h1 : -(2 ^ 62) ≤ i) (h2 : i < 2 ^ 62) : EvIt K (iRng1 (tCons te tNil)) env (rangeD 0 i) := fun σ H r Rr q => h σ H r _ fun v H1 x1 d1 => by
  have e := itok_rng (K := K) (S := H1) (lo := 0) (hi := i)
  rw [Int.sub_zero] at e
  exact ⟨i, by rw [dq_int d1], h1, h2, q _ H1 x1 e⟩
theorem ei_rng2 (h : EvD K ta env (.int i)) (h' : EvD K tb env (.int j)) (hb : -(2 ^ 62) ≤ i ∧ i < 2 ^ 62 ∧ -(2 ^ 62) ≤ j ∧ j < 2 ^ 62) : EvIt K (iRng2 (tCons ta (tCons tb tNil))) env (rangeD i j) := fun σ H r Rr q => h σ H r _ fun v H1 x1 d1 => h' σ H1 (r.mono x1) _ fun w H2 x2 d2 =>
  ⟨i, j, by rw [dq_int d1, dq_int d2], hb, q _ H2 (x1.trans x2) itok_rng⟩

theorem ez_list (h : EvZ K te env (.list ds)) : EvItZ K (iSeq K te) env ds := fun B Z fps σ H r Rr q => h B Z fps σ H r _ fun v Z1 H1 g1 d1 => by
  obtain ⟨a, xs, rfl, hs, hd⟩ := dq_list d1
  exact ⟨a, xs, rfl, .inl ⟨.inl (.inl (g1.zh _ _ hs)), q _ Z1 H1 g1 (itok_list hs hd)⟩⟩
theorem ez_tup (h : EvZ K te env (.tuple ds)) : EvItZ K (iSeq K te) env ds := fun B Z fps σ H r Rr q => h B Z fps σ H r _ fun v Z1 H1 g1 d1 => by
  obtain ⟨a, xs, rfl, hs, hd⟩ := dq_tuple d1
  exact ⟨a, xs, rfl, .inr ⟨Evl.ex_t g1.zh hs, q _ Z1 H1 g1 (itok_tup hs hd)⟩⟩
theorem ez_enumL (h : EvZ K te env (.list ds)) : EvItZ K (iEnumQ K (tCons te tNil)) env (enumD ds) := fun B Z fps σ H r Rr q => h B Z fps σ H r _ fun v Z1 H1 g1 d1 => by
  obtain ⟨a, xs, rfl, hs, hd⟩ := dq_list d1
  exact ⟨a, xs, rfl, .inl ⟨.inl (.inl (g1.zh _ _ hs)), q _ Z1 H1 g1 (itok_enum hs hd)⟩⟩
theorem ez_enumT (h : EvZ K te env (.tuple ds)) : EvItZ K (iEnumQ K (tCons te tNil)) env (enumD ds) := fun B Z fps σ H r Rr q => h B Z fps σ H r _ fun v Z1 H1 g1 d1 => by
  obtain ⟨a, xs, rfl, hs, hd⟩ := dq_tuple d1
  exact ⟨a, xs, rfl, .inr ⟨Evl.ex_t g1.zh hs, q _ Z1 H1 g1 (itok_enumT hs hd)⟩⟩
theorem ez_zipL (h : EvZ K ta env (.list ds)) (h' : EvZ K tb env (.list es)) : EvItZ K (RZ.iZipA K (tCons ta (tCons tb tNil))) env (zipD ds es) := fun B Z fps σ H r Rr q => h B Z fps σ H r _ fun v Z1 H1 g1 d1 => h' B Z1 fps σ H1 (r.mono g1) _ fun w Z2 H2 g2 d2 => by
  obtain ⟨a, xs, rfl, hs, hd⟩ := dq_list (dq_mono d1 g2.z)
  obtain ⟨b, ys, rfl, hs', hd'⟩ := dq_list d2
  exact ⟨a, b, xs, ys, rfl, .inl ⟨.inl (.inl (g2.zh _ _ hs)), .inl (.inl (g2.zh _ _ hs')), q _ Z2 H2 (g1.trans g2) (itok_zipL hs hs' hd hd')⟩⟩
theorem ez_zipT (h : EvZ K ta env (.tuple ds)) (h' : EvZ K tb env (.tuple es)) : EvItZ K (RZ.iZipA K (tCons ta (tCons tb tNil))) env (zipD ds es) := fun B Z fps σ H r Rr q => h B Z fps σ H r _ fun v Z1 H1 g1 d1 => h' B Z1 fps σ H1 (r.mono g1) _ fun w Z2 H2 g2 d2 => by
  obtain ⟨a, xs, rfl, hs, hd⟩ := dq_tuple (dq_mono d1 g2.z)
  obtain ⟨b, ys, rfl, hs', hd'⟩ := dq_tuple d2
  exact ⟨a, b, xs, ys, rfl, .inr ⟨Evl.ex_t g2.zh hs, Evl.ex_t g2.zh hs', q _ Z2 H2 (g1.trans g2) (itok_zipT hs hs' hd hd')⟩⟩
theorem ez_rng1 (h : EvD K te env (.int i)) (h1 : -(2 ^ 62) ≤ i) (h2 : i < 2 ^ 62) : EvItZ K (iRng1 (tCons te tNil)) env (rangeD 0 i) := fun B Z fps σ H r Rr q => h σ H r.rp _ fun v H1 x1 d1 => by
  have e := itok_rng (K := K) (S := Z) (lo := 0) (hi := i)
  rw [Int.sub_zero] at e
  exact ⟨i, by rw [dq_int d1], h1, h2, q _ Z H1 (r.grow x1) e⟩
theorem ez_rng2 (h : EvD K ta env (.int i)) (h' : EvD K tb env (.int j)) (hb : -(2 ^ 62) ≤ i ∧ i < 2 ^ 62 ∧ -(2 ^ 62) ≤ j ∧ j < 2 ^ 62) : EvItZ K (iRng2 (tCons ta (tCons tb tNil))) env (rangeD i j) := fun B Z fps σ H r Rr q => h σ H r.rp _ fun v H1 x1 d1 => h' σ H1 (r.rp.mono x1) _ fun w H2 x2 d2 =>
  ⟨i, j, by rw [dq_int d1, dq_int d2], hb, q _ Z H2 (r.grow (x1.trans x2)) itok_rng⟩
end

/-! ### targets -/
def putAll (σ : St) : List Nat → List V → St
  | j :: js, u :: us => putAll (σ.set j (some u)) js us
  | _, _ => σ
def putEnv (env : Env) : List (Nat × D) → Env
  | [] => env
  | (j, d) :: bs => putEnv (env.set j (.im d)) bs
/-- a target takes data apart: which slot gets what -/
def Bd (K : PySem.W.Frag) (g : TG) (d : D) (bs : List (Nat × D)) : Prop := ∀ (Z H : Hp) (x : V) (σ : St), Ex Z H → Dq K Z x d → ∀ Q, (∀ us, Dqs K Z us (bs.map (·.2)) → Q (putAll σ (bs.map (·.1)) us) H) → g x σ H Q
def Bds (K : PySem.W.Frag) (g : TGs) (ds : List D) (bs : List (Nat × D)) : Prop := ∀ (Z H : Hp) (xs : List V) (σ : St), Ex Z H → Dqs K Z xs ds → ∀ Q, (∀ us, Dqs K Z us (bs.map (·.2)) → Q (putAll σ (bs.map (·.1)) us) H) → g xs σ H Q
section
variable {K : PySem.W.Frag} {g : TG} {gs : TGs} {d : D} {ds : List D} {bs cs : List (Nat × D)} {σ : St} {env : Env}
theorem putAll_app : ∀ {js ks : List Nat} {us ws : List V} {σ : St}, js.length = us.length → putAll (putAll σ js us) ks ws = putAll σ (js ++ ks) (us ++ ws)
  | [], _, [], _, _, _ => rfl
  | j :: js, ks, u :: us, ws, σ, h => putAll_app (σ := σ.set j (some u)) (by simpa using h)
theorem bd_name {j : Nat} : Bd K (gName j) d [(j, d)] := fun Z H x σ _ h Q q => q [x] (.cons h .nil)
theorem bds_nil : Bds K gNil [] [] := fun Z H xs σ _ h Q q => by
  cases h
  exact ⟨rfl, q [] .nil⟩
theorem bds_cons (h1 : Bd K g d bs) (h2 : Bds K gs ds cs) : Bds K (gCons g gs) (d :: ds) (bs ++ cs) := fun Z H xs σ e h Q q => by
  cases h with
  | cons hd ht =>
    refine ⟨_, _, rfl, h1 Z H _ σ e hd _ fun us hu => h2 Z H _ _ e ht _ fun ws hw => ?_⟩
    have l : (bs.map (·.1)).length = us.length := by rw [dqs_len hu]; simp
    rw [putAll_app l, ← List.map_append]
    exact q (us ++ ws) (by rw [List.map_append]; exact dqs_app hu hw)
theorem bd_tup {n : Nat} (h : Bds K gs ds bs) (hn : ds.length = n := by rfl) : Bd K (gTup K n gs) (.tuple ds) bs := fun Z H x σ e hd Q q => by
  obtain ⟨a, xs, rfl, hs, hx⟩ := dq_tuple hd
  exact ⟨a, xs, rfl, Evl.ex_t e hs, by rw [dqs_len hx]; exact hn, h Z H xs σ e hx Q q⟩
theorem Bd.cast {d' : D} {bs' : List (Nat × D)} (h : Bd K g d bs) (e : d = d') (e' : bs = bs') : Bd K g d' bs' := e ▸ e' ▸ h
theorem putAll_len : ∀ {js : List Nat} {us : List V} {σ : St}, (putAll σ js us).length = σ.length
  | [], _, _ => rfl
  | _ :: _, [], _ => rfl
  | j :: js, u :: us, σ => by show (putAll (σ.set j (some u)) js us).length = _; rw [putAll_len]; simp
theorem putEnv_len : ∀ {bs : List (Nat × D)} {env : Env}, (putEnv env bs).length = env.length
  | [], _ => rfl
  | (j, d) :: bs, env => by show (putEnv (env.set j (.im d)) bs).length = _; rw [putEnv_len]; simp
/-- the state behind a target -/
theorem R.putAll {B : Hp} {H : Hp} : ∀ {bs : List (Nat × D)} {us : List V} {env : Env} {σ : St} {Z : Hp} {fps : Nat → List Addr}, Rz K B Z fps env σ H → Dqs K Z us (bs.map (·.2)) → ∃ fps', Rz K B Z fps' (putEnv env bs) (VL.putAll σ (bs.map (·.1)) us) H
  | [], us, env, σ, Z, fps, r, h => by cases h; exact ⟨fps, r⟩
  | (j, d) :: bs, u :: us, env, σ, Z, fps, r, h => by
    cases h with
    | cons h1 h2 =>
      have r2 : Rz K B Z (fun k => if k = j then [] else fps k) (env.set j (.im d)) (σ.set j (some u)) H := by
        refine ⟨r.bz, r.zh, fun k a ha => ?_, fun k a ha => ?_, fun k l a hk hl => ?_, by simpa using r.len, fun k s e => ?_⟩
        · split at ha
          · cases ha
          · exact r.fr k a ha
        · split at ha
          · cases ha
          · exact r.mu k a ha
        · split at hk
          · cases hk
          · split at hl
            · cases hl
            · exact r.dj k l a hk hl
        · by_cases q : k = j
          · subst q
            have hl : k < env.length := by
              have := (List.getElem?_eq_some_iff.mp e).1
              simpa using this
            rw [List.getElem?_set_self hl] at e
            cases e
            rw [List.getElem?_set_self (by rw [← r.len]; exact hl)]
            exact ⟨by simp, _, rfl, h1⟩
          · rw [List.getElem?_set_ne (Ne.symm q)] at e
            rw [List.getElem?_set_ne (Ne.symm q)]
            simp only [if_neg q]
            exact r.sl k s e
      exact R.putAll (bs := bs) (us := us) (env := env.set j (.im d)) (σ := σ.set j (some u)) r2 h2
theorem RP.putAll {H : Hp} : ∀ {bs : List (Nat × D)} {us : List V} {env : Env} {σ : St}, RP K H env σ → Dqs K H us (bs.map (·.2)) → RP K H (putEnv env bs) (VL.putAll σ (bs.map (·.1)) us)
  | [], us, env, σ, r, h => by cases h; exact r
  | (j, d) :: bs, u :: us, env, σ, r, h => by
    cases h with
    | cons h1 h2 =>
      have r2 : RP K H (env.set j (.im d)) (σ.set j (some u)) := ⟨by simpa using r.1, fun i s d' e hv => by
        by_cases q : i = j
        · subst q
          have hl : i < env.length := by
            have := (List.getElem?_eq_some_iff.mp e).1
            simpa using this
          rw [List.getElem?_set_self hl] at e
          cases e
          cases hv
          rw [List.getElem?_set_self (by rw [← r.1]; exact hl)]
          exact ⟨_, rfl, h1⟩
        · rw [List.getElem?_set_ne (Ne.symm q)] at e
          rw [List.getElem?_set_ne (Ne.symm q)]
          exact r.2.1 i s d' e hv, fun i c e => by
        by_cases q : i = j
        · subst q
          have hl : i < env.length := by
            have := (List.getElem?_eq_some_iff.mp e).1
            simpa using this
          rw [List.getElem?_set_self hl] at e
          cases e
        · rw [List.getElem?_set_ne (Ne.symm q)] at e
          rw [List.getElem?_set_ne (Ne.symm q)]
          exact r.2.2 i c e⟩
      exact RP.putAll (bs := bs) (us := us) (env := env.set j (.im d)) (σ := σ.set j (some u)) r2 h2
end

/-! ### comprehensions -/
def clr (env : Env) : List Nat → Env
  | [] => env
  | v :: vs => (clr env vs).set v .no
section
variable {K : PySem.W.Frag} {env : Env} {H : Hp} {σ : St} {wi : TI} {g : TG} {tt : TT} {te : TE} {vs : List Nat}
theorem clr_len : ∀ vs : List Nat, (clr env vs).length = env.length
  | [] => rfl
  | v :: vs => by unfold clr; rw [List.length_set, clr_len vs]
theorem RP.clr (r : RP K H env σ) : ∀ vs : List Nat, RP K H (clr env vs) (wipe σ vs)
  | [] => r
  | v :: vs => by
    have ih := RP.clr r vs
    refine ⟨by unfold VL.clr wipe; simpa using ih.1, fun i s d e hv => ?_, fun i c e => ?_⟩
    rotate_left
    · unfold VL.clr at e
      unfold wipe
      by_cases q : i = v
      · subst q
        have hl : i < (VL.clr env vs).length := by
          have := (List.getElem?_eq_some_iff.mp e).1
          simpa using this
        rw [List.getElem?_set_self hl] at e
        cases e
      · rw [List.getElem?_set_ne (Ne.symm q)] at e
        rw [List.getElem?_set_ne (Ne.symm q)]
        exact ih.2.2 i c e
    unfold VL.clr at e
    unfold wipe
    by_cases q : i = v
    · subst q
      have hl : i < (VL.clr env vs).length := by
        have := (List.getElem?_eq_some_iff.mp e).1
        simpa using this
      rw [List.getElem?_set_self hl] at e
      cases e
      cases hv
    · rw [List.getElem?_set_ne (Ne.symm q)] at e
      rw [List.getElem?_set_ne (Ne.symm q)]
      exact ih.2.1 i s d e hv
theorem wipe_get : ∀ {vs : List Nat} {σ : St} {i : Nat}, i ∉ vs → (wipe σ vs)[i]? = σ[i]?
  | [], _, _, _ => rfl
  | v :: vs, σ, i, h => by
    unfold wipe
    rw [List.getElem?_set_ne (fun e => h (by simp [e])), wipe_get fun e => h (by simp [e])]
theorem wipe_none : ∀ {vs : List Nat} {σ : St} {i : Nat}, i ∈ vs → i < σ.length → (wipe σ vs)[i]? = some none
  | v :: vs, σ, i, h, hl => by
    unfold wipe
    by_cases q : v = i
    · subst q
      rw [List.getElem?_set_self (by rw [wipe_length]; exact hl)]
    · rw [List.getElem?_set_ne q]
      rcases List.mem_cons.mp h with e | h
      · exact absurd e.symm q
      · exact wipe_none h hl
theorem wipe_wipe (vs : List Nat) (σ : St) : wipe (wipe σ vs) vs = wipe σ vs := by
  apply List.ext_getElem?
  intro i
  by_cases h : i ∈ vs
  · by_cases hl : i < σ.length
    · rw [wipe_none h (by rw [wipe_length]; exact hl), wipe_none h hl]
    · rw [List.getElem?_eq_none (by rw [wipe_length, wipe_length]; omega), List.getElem?_eq_none (by rw [wipe_length]; omega)]
  · rw [wipe_get h]
theorem wipe_putAll : ∀ {js : List Nat} {us : List V} {σ : St} {vs : List Nat}, (∀ j ∈ js, j ∈ vs) → wipe (putAll σ js us) vs = wipe σ vs
  | [], _, _, _, _ => rfl
  | _ :: _, [], _, _, _ => rfl
  | j :: js, u :: us, σ, vs, h => by
    show wipe (putAll (σ.set j (some u)) js us) vs = _
    rw [wipe_putAll fun k hk => h k (by simp [hk])]
    apply List.ext_getElem?
    intro i
    by_cases hi : i ∈ vs
    · by_cases hl : i < σ.length
      · rw [wipe_none hi (by simpa using hl), wipe_none hi hl]
      · rw [List.getElem?_eq_none (by rw [wipe_length]; simp; omega), List.getElem?_eq_none (by rw [wipe_length]; omega)]
    · rw [wipe_get hi, wipe_get hi, List.getElem?_set_ne (fun e => hi (by rw [← e]; exact h j (by simp)))]
/-- [e for .. in .. if ..], at one state -/
theorem lc_at {α : Type} {xs : List α} {enc : α → D} (r : RP K H env σ) (hi : ∀ Rr : It → Hp → Prop, (∀ J H', Ex H H' → ItOk K H' J (xs.map enc) → Rr J H') → wi σ H Rr) (f : α → Bool) (w : α → D) (hz : xs.length ≤ 10000000)
    (turn : ∀ a ∈ xs, ∃ bs, Bd K g (enc a) bs ∧ (∀ j ∈ bs.map (·.1), j ∈ vs) ∧ EvB K tt (putEnv (clr env vs) bs) (f a) ∧ (f a = true → EvD K te (putEnv (clr env vs) bs) (w a) ∧ lf (w a) = true))
    (Q : VK) (q : ∀ p ys H', H p = none → Ex H H' → H' p = some (.lst ys) → Dqs K H' ys ((xs.filter f).map w) → Q (.ref p) H') : tLc wi g tt te vs σ H Q := hi _ fun J H1 x1 ok D hD => by
  have hn : D ∉ ([] : List Addr) := by simp
  have hlen : (xs.map enc).length = xs.length := by simp
  -- what has been made so far lies at D, frozen but for D itself
  have D0 : ∀ Hi : Hp, Ex H1 Hi → ∀ o, Ex H1 (upd Hi D o) := fun Hi e o a u h => by rw [upd_ne (ne_of_none h hD)]; exact e a u h
  refine ⟨fun i m Hi => m = xs.length - i ∧ i ≤ xs.length ∧ Ex H1 Hi ∧ ∃ acc, Hi D = some (.lst acc) ∧ Dqs K Hi acc (((xs.take i).filter f).map w) ∧ lfs (((xs.take i).filter f).map w) = true, ⟨xs.length, by simp, Nat.zero_le _, Evl.Ex.new hD, [], upd_same, .nil, rfl⟩, ?_⟩
  rintro i m Hi ⟨rfl, hil, ex, acc, hacc, hdq, hlf⟩
  by_cases hlt : i < xs.length
  · refine .inr ⟨ok.goes i Hi (by rw [hlen]; exact hlt) ex, fun Hj => Ex H1 Hj ∧ ∃ acc, Hj D = some (.lst acc) ∧ Dqs K Hj acc (((xs.take (i + 1)).filter f).map w) ∧ lfs (((xs.take (i + 1)).filter f).map w) = true, fun Hj ⟨a, b⟩ => ⟨xs.length - (i + 1), by omega, rfl, hlt, a, b⟩, fun x Hy y => ?_⟩
    obtain ⟨d, hd, hy⟩ := ok.yields i Hi x Hy (by rw [hlen]; exact hlt) ex y
    have hd' : d = enc xs[i] := by
      rw [List.getElem?_map, List.getElem?_eq_getElem hlt] at hd
      exact (Option.some.inj hd).symm
    subst hd'
    -- the heap behind the draw
    obtain ⟨xy, dy⟩ : Ex Hi Hy ∧ ∃ Z, Ex Z Hy ∧ Ex H1 Z ∧ Dq K Z x (enc xs[i]) := by
      rcases hy with ⟨rfl, h⟩ | ⟨T, us, es, rfl, hT, rfl, e, h⟩
      · exact ⟨Evl.Ex.refl _, H1, ex, Evl.Ex.refl _, h⟩
      · have hT1 : H1 T = none := Evl.fresh_back ex hT
        refine ⟨Evl.Ex.new hT, upd H1 T (.tup us), fun a o h => ?_, Evl.Ex.new hT1, ?_⟩
        · by_cases c : a = T
          · subst c; rw [upd_same] at h ⊢; exact h
          · rw [upd_ne c] at h ⊢; exact ex a o h
        · rw [e]; exact .tup (.inl (.inl upd_same)) (dqs_mono h (Evl.Ex.new hT1))
    obtain ⟨Z, zy, hz1, dz⟩ := dy
    obtain ⟨bs, hb, hj, ht, he⟩ := turn xs[i] (List.getElem_mem hlt)
    refine hb Z Hy x (wipe σ vs) zy dz _ fun us hus => ⟨by rw [wipe_putAll hj, wipe_wipe], ?_⟩
    have rp : RP K Hy (putEnv (clr env vs) bs) (putAll (wipe σ vs) (bs.map (·.1)) us) := RP.putAll ((r.mono (x1.trans (ex.trans xy))).clr vs) (dqs_mono hus zy)
    refine ht _ Hy rp _ fun H3 x3 => ?_
    have tk : xs.take (i + 1) = xs.take i ++ [xs[i]] := by rw [List.take_add_one, List.getElem?_eq_getElem hlt]; rfl
    cases hf : f xs[i] with
    | false =>
      rw [if_neg (by simp)]
      refine ⟨ex.trans (xy.trans x3), acc, x3 _ _ (xy _ _ hacc), ?_, ?_⟩
      · rw [tk, List.filter_append, List.filter_cons_of_neg (by simp [hf]), List.filter_nil, List.append_nil]
        exact dqs_mono hdq (xy.trans x3)
      · rw [tk, List.filter_append, List.filter_cons_of_neg (by simp [hf]), List.filter_nil, List.append_nil]
        exact hlf
    | true =>
      rw [if_pos rfl]
      obtain ⟨he1, he2⟩ := he hf
      refine he1 _ H3 (rp.mono x3) _ fun v H4 x4 d4 => ?_
      have hacc4 := x4 _ _ (x3 _ _ (xy _ _ hacc))
      have hdq4 := dqs_mono hdq (xy.trans (x3.trans x4))
      have hlf' : lfs (((xs.take i).filter f).map w ++ [w xs[i]]) = true := lfs_append hlf (by simp [lfs, he2])
      refine ⟨acc, hacc4, ?_, D0 _ (ex.trans (xy.trans (x3.trans x4))) _, acc ++ [v], upd_same, ?_, ?_⟩
      · rw [dqs_len hdq4, List.length_map]
        have h1 : ((xs.take i).filter f).length ≤ (xs.take i).length := List.length_filter_le _ _
        have h2 : (xs.take i).length ≤ xs.length := by rw [List.length_take]; omega
        show _ < 2 ^ 24
        omega
      · rw [tk, List.filter_append, List.filter_cons_of_pos hf, List.filter_nil, List.map_append]
        refine lfs_dq (fun a o e t => ?_) _ _ hlf' (dqs_app hdq4 (.cons d4 .nil))
        by_cases c : a = D
        · subst c; rw [hacc4] at e; cases e; cases t
        · rw [upd_ne c]; exact e
      · rw [tk, List.filter_append, List.filter_cons_of_pos hf, List.filter_nil, List.map_append]
        exact hlf'
  · have e : i = xs.length := by omega
    subst e
    refine .inl ⟨by rw [← hlen]; exact ok.stops Hi ex, ?_⟩
    rw [List.take_length] at hdq
    exact q D acc Hi (Evl.fresh_back x1 hD) (x1.trans ex) hacc hdq
/-- [e for .. in .. if ..]: the items are the data of the a's -/
theorem ef_lc {α : Type} {xs : List α} {enc : α → D} (hi : EvIt K wi env (xs.map enc)) (f : α → Bool) (w : α → D) (hz : xs.length ≤ 10000000)
    (turn : ∀ a ∈ xs, ∃ bs, Bd K g (enc a) bs ∧ (∀ j ∈ bs.map (·.1), j ∈ vs) ∧ EvB K tt (putEnv (clr env vs) bs) (f a) ∧ (f a = true → EvD K te (putEnv (clr env vs) bs) (w a) ∧ lf (w a) = true)) :
    EvF K (tLc wi g tt te vs) env ((xs.filter f).map w) := fun σ H r Q q => lc_at r (hi σ H r) f w hz turn Q q
theorem eb_yes : EvB K tYes env true := fun _ H _ _ q => q H (Evl.Ex.refl H)
end
end VL
/-! Vl4: statements over slots. -/
namespace VL
open PySem PySem.Spec L2

/-- what is wanted behind a statement -/
structure En where
  nx : Env → Prop
  rt : VK
  bk : Env → Prop := fun _ => False
  ct : Env → Prop := fun _ => False
def WpS (K : PySem.W.Frag) (B : Hp) (ts : TS) (env : Env) (E : En) : Prop := ∀ B', Ex B B' → ∀ σ H (D : Ends), R K B' env σ H →
  (∀ env' σ' H', E.nx env' → R K B' env' σ' H' → D.nx σ' H') → (∀ v H', E.rt v H' → D.rt v H') → (∀ env' σ' H', E.bk env' → R K B' env' σ' H' → D.bk σ' H') → (∀ env' σ' H', E.ct env' → R K B' env' σ' H' → D.ct σ' H') → ts D σ H

/-- a value to be stored: data without lists, a new list of one's own, what is frozen -/
def EvS (K : PySem.W.Frag) (te : TE) (env : Env) (s : Sl) : Prop := ∀ B Z fps σ H, Rz K B Z fps env σ H → ∀ Q : VK,
  (∀ v Z' H' fp, Gro fps Z H Z' H' → rep K Z' H' s (some v) fp → (∀ a ∈ fp, H a = none ∧ Z' a = none) → Q v H') → te σ H Q
section
variable {K : PySem.W.Frag} {B B' Z Z' H H' : Hp} {fps : Nat → List Addr} {env env' env1 env2 : Env} {σ : St} {ta tb te tc : TE} {t u tz : TS} {tt : TT} {tas : TA} {d e : D} {ds es : List D} {bs : List (Nat × D)} {i j k : Nat} {s s1 s2 : Sl} {E E' : En} {g : TG} {b : Bool}

theorem es_lf (h : EvD K te env d) (l : lf d = true) : EvS K te env (.im d) := fun B Z fps σ H r Q q => h σ H r.rp Q fun v H' x hd => by
  obtain ⟨Z', g, hz⟩ := r.lf_gro x l hd
  exact q v Z' H' [] g ⟨rfl, v, rfl, hz⟩ fun a ha => nomatch ha
theorem es_z (h : EvZ K te env d) : EvS K te env (.im d) := fun B Z fps σ H r Q q => h B Z fps σ H r Q fun v Z' H' g hz =>
  q v Z' H' [] g ⟨rfl, v, rfl, hz⟩ fun a ha => nomatch ha
theorem es_f (h : EvF K te env ds) (l : lfs ds = true) : EvS K te env (.ow ds) := fun B Z fps σ H r Q q => h σ H r.rp Q fun p xs H' n x hp hd => by
  obtain ⟨Z', g, hz, hk⟩ := r.lfs_gro x l hd
  refine q _ Z' H' [p] g ⟨p, xs, rfl, rfl, hp, hz⟩ fun a ha => ?_
  obtain rfl := List.mem_singleton.mp ha
  exact ⟨n, by rw [hk a xs hp]; exact r.zn n⟩

theorem WpS.mono (h : WpS K B t env E) (h1 : ∀ e, E.nx e → E'.nx e) (h2 : ∀ v H, E.rt v H → E'.rt v H) (h3 : ∀ e, E.bk e → E'.bk e) (h4 : ∀ e, E.ct e → E'.ct e) : WpS K B t env E' :=
  fun B' x σ H D r n rt bk ct => h B' x σ H D r (fun e σ H q => n e σ H (h1 e q)) (fun v H q => rt v H (h2 v H q)) (fun e σ H q => bk e σ H (h3 e q)) (fun e σ H q => ct e σ H (h4 e q))
theorem WpS.base (h : WpS K B t env E) (e : Ex B B') : WpS K B' t env E := fun B2 x => h B2 (e.trans x)
/-- something is forgotten -/
theorem WpS.fg (h : WpS K B t env' E) (f : Fg env env') : WpS K B t env E := fun B' x σ H D r => h B' x σ H D (r.fg f)
theorem ws_freeze {n : Nat} (hn : env[n]? = some (.ow ds)) (h : WpS K B t (env.set n (.im (.list ds))) E) : WpS K B t env E := fun B' x σ H D r => h B' x σ H D (r.freeze hn)

theorem ws_seq {M : Env → Prop} (h : WpS K B t env { E with nx := M }) (k : ∀ e, M e → WpS K B u e E) : WpS K B (tSeq t u) env E := fun B' x σ H D r n rt bk ct =>
  h B' x σ H { D with nx := u D } r (fun e σ' H' m r' => k e m B' x σ' H' D r' n rt bk ct) rt bk ct
/-- one way alone -/
theorem ws_s {e : Env} (h : WpS K B t env { E with nx := fun x => x = e }) (k : WpS K B u e E) : WpS K B (tSeq t u) env E := ws_seq h fun x q => by rw [q]; exact k
theorem ws_next (h : E.nx env) : WpS K B tNext env E := fun B' x σ H D r n _ _ _ => n env σ H h r
theorem ws_break (h : E.bk env) : WpS K B tBreak env E := fun B' x σ H D r _ _ bk _ => bk env σ H h r
theorem ws_cont (h : E.ct env) : WpS K B tCont env E := fun B' x σ H D r _ _ _ ct => ct env σ H h r

theorem Rz.trim (r : Rz K B Z fps env σ H) : Rz K B Z (fun i => if i < env.length then fps i else []) env σ H where
  bz := r.bz
  zh := r.zh
  fr := fun i a ha => by
    split at ha
    · exact r.fr i a ha
    · cases ha
  mu := fun i a ha => by
    split at ha
    · exact r.mu i a ha
    · cases ha
  dj := fun i j a hi hj => by
    split at hi
    · split at hj
      · exact r.dj i j a hi hj
      · cases hj
    · cases hi
  len := r.len
  sl := fun i s e => by
    have hl := (List.getElem?_eq_some_iff.mp e).1
    simp only [if_pos hl]
    exact r.sl i s e
theorem Rz.ghost (r : Rz K B Z fps env σ H) {fp : List Addr} (hz : ∀ a ∈ fp, Z a = none) (hm : ∀ a ∈ fp, ∃ o, H a = some o ∧ isTup o = false) (hf : ∀ j a, a ∈ fp → a ∉ fps j) :
    Rz K B Z (fun i => if i < env.length then fps i else if i = env.length then fp else []) env σ H where
  bz := r.bz
  zh := r.zh
  fr := fun i a ha => by
    split at ha
    · exact r.fr i a ha
    · split at ha
      · exact hz a ha
      · cases ha
  mu := fun i a ha => by
    split at ha
    · exact r.mu i a ha
    · split at ha
      · exact hm a ha
      · cases ha
  dj := fun i j a hi hj => by
    split at hi
    · split at hj
      · exact r.dj i j a hi hj
      · split at hj
        · exact absurd hi (hf i a hj)
        · cases hj
    · split at hi
      · split at hj
        · exact absurd hj (hf j a hi)
        · split at hj
          · rename_i q1 _ q2; rw [q1, q2]
          · cases hj
      · cases hi
  len := r.len
  sl := fun i s e => by
    have hl := (List.getElem?_eq_some_iff.mp e).1
    simp only [if_pos hl]
    exact r.sl i s e
/-- stored with its own objects, the footprints told -/
theorem Rz.putS (r : Rz K B Z fps env σ H) {i : Nat} {v : V} {s : Sl} {fp : List Addr} (h : rep K Z H s (some v) fp) (hz : ∀ a ∈ fp, Z a = none) (hf : ∀ j a, a ∈ fp → a ∉ fps j) : R K B (env.set i s) (σ.set i (some v)) H :=
  r.putOwn h hz fun j a _ ha => hf j a ha
/-- x = e -/
theorem ws_asg (h : EvS K te env s) (k : E.nx (env.set i s)) : WpS K B (tAsg te (gName i)) env E := fun B' x σ H D r n _ _ _ => by
  obtain ⟨Z, fps, r⟩ := r
  exact h B' Z fps σ H r _ fun v Z' H' fp g rp hf => n _ _ _ k ((r.mono g).putS rp (fun a ha => (hf a ha).2) fun j a ha hj => by
    obtain ⟨o, e, _⟩ := r.mu j a hj
    rw [(hf a ha).1] at e
    cases e)
/-- target = e, the target takes data apart -/
theorem ws_asgG (h : EvZ K te env d) (hb : Bd K g d bs) (k : E.nx (putEnv env bs)) : WpS K B (tAsg te g) env E := fun B' x σ H D r n _ _ _ => by
  obtain ⟨Z, fps, r⟩ := r
  refine h B' Z fps σ H r _ fun v Z' H' gr hz => hb Z' H' v σ gr.zh hz _ fun us hu => ?_
  obtain ⟨fps', r'⟩ := R.putAll (r.mono gr) hu
  exact n _ _ _ k ⟨Z', fps', r'⟩
/-- a, b = e, f -/
theorem ws_par (h1 : EvS K ta env s1) (h2 : EvS K tb env s2) (hij : i ≠ j) (k : E.nx ((env.set i s1).set j s2)) : WpS K B (tPar i j (tCons ta (tCons tb tNil))) env E := fun B' x σ H D r n _ _ _ => by
  obtain ⟨Z, fps, r⟩ := r
  refine h1 B' Z fps σ H r _ fun v Z1 H1 fp1 g1 rp1 hf1 => ?_
  have r1 := r.mono g1
  have m1 := rep_mu rp1
  have nf1 : ∀ j a, a ∈ fp1 → a ∉ fps j := fun j a ha hj => by
    obtain ⟨o, e, _⟩ := r.mu j a hj
    rw [(hf1 a ha).1] at e
    cases e
  have rg := r1.ghost (fun a ha => (hf1 a ha).2) m1 nf1
  refine h2 B' Z1 _ σ H1 rg _ fun w Z2 H2 fp2 g2 rp2 hf2 => ?_
  refine ⟨v, w, rfl, ?_⟩
  have r2 := rg.mono g2
  have keep : ∀ a ∈ fp1, H2 a = H1 a := fun a ha => by
    obtain ⟨o, e, _⟩ := m1 a ha
    rw [e, g2.h a o e]
  have z2 : ∀ a ∈ fp1, Z2 a = none := fun a ha => g2.fr env.length a (by simp [ha])
  have rp1' := rep_mono g2.z keep rp1
  -- the first slot is stored, its objects told apart from the second's
  have nf2 : ∀ a ∈ fp2, a ∉ fp1 := fun a ha h => by
    obtain ⟨o, e, _⟩ := m1 a h
    rw [(hf2 a ha).1] at e
    cases e
  have nf3 : ∀ j a, a ∈ fp2 → a ∉ fps j := fun j a ha hj => by
    obtain ⟨o, e, _⟩ := r1.mu j a hj
    rw [(hf2 a ha).1] at e
    cases e
  refine n _ _ _ k ⟨Z2, fun l => if l = j then fp2 else if l = i then fp1 else if l < env.length then fps l else [], r2.bz, r2.zh, fun l a ha => ?_, fun l a ha => ?_, fun l m a hl hm => ?_, by simpa using r.len, fun l s e => ?_⟩
  · split at ha
    · exact (hf2 a ha).2
    · split at ha
      · exact z2 a ha
      · split at ha
        · exact r2.fr l a (by simp_all)
        · cases ha
  · split at ha
    · exact rep_mu rp2 a ha
    · split at ha
      · exact rep_mu rp1' a ha
      · split at ha
        · exact r2.mu l a (by simp_all)
        · cases ha
  · split at hl
    · rename_i q1
      split at hm
      · rename_i q2; rw [q1, q2]
      · split at hm
        · exact absurd hm (nf2 a hl)
        · split at hm
          · exact absurd hm (nf3 m a hl)
          · cases hm
    · split at hl
      · rename_i q1
        split at hm
        · exact absurd hl (nf2 a hm)
        · split at hm
          · rename_i q2; rw [q1, q2]
          · split at hm
            · exact absurd hm (nf1 m a hl)
            · cases hm
      · split at hl
        · split at hm
          · exact absurd hl (nf3 l a hm)
          · split at hm
            · exact absurd hl (nf1 l a hm)
            · split at hm
              · exact r.dj l m a hl hm
              · cases hm
        · cases hl
  · by_cases q : l = j
    · subst q
      have hl : l < (env.set i s1).length := by
        have := (List.getElem?_eq_some_iff.mp e).1
        simpa using this
      rw [List.getElem?_set_self hl] at e
      cases e
      rw [List.getElem?_set_self (by rw [List.length_set, ← r.len]; simpa using hl)]
      simp only [if_pos]
      exact rp2
    · rw [List.getElem?_set_ne (Ne.symm q)] at e
      rw [List.getElem?_set_ne (Ne.symm q)]
      simp only [if_neg q]
      by_cases q' : l = i
      · subst q'
        have hl : l < env.length := by
          have := (List.getElem?_eq_some_iff.mp e).1
          simpa using this
        rw [List.getElem?_set_self hl] at e
        cases e
        rw [List.getElem?_set_self (by rw [← r.len]; exact hl)]
        simp only [if_pos]
        exact rp1'
      · rw [List.getElem?_set_ne (Ne.symm q')] at e
        rw [List.getElem?_set_ne (Ne.symm q')]
        simp only [if_neg q']
        have hl : l < env.length := (List.getElem?_eq_some_iff.mp e).1
        have := r2.sl l s e
        simp only [if_pos hl] at this ⊢
        exact this
/-- x = y, y's own list goes to x -/
theorem ws_move {n : Nat} (h : env[n]? = some (.ow ds)) (hn : n ≠ i) (k : E.nx ((env.set n .no).set i (.ow ds))) : WpS K B (tAsg (tVar n) (gName i)) env E := fun B' x σ H D r nx _ _ _ => by
  obtain ⟨Z, fps, r⟩ := r
  obtain ⟨l, xs, e1, e2, e3, e4⟩ := r.sl n _ h
  have hs : σ[n]? = some (some (.ref l)) := by
    cases q : σ[n]? with
    | none => rw [q] at e1; cases e1
    | some w => rw [q] at e1; cases w with
      | none => cases e1
      | some z => cases e1; rfl
  refine ⟨_, hs, nx _ _ _ k ?_⟩
  refine ⟨Z, fun j => if j = i then fps n else if j = n then [] else fps j, r.bz, r.zh, fun j a ha => ?_, fun j a ha => ?_, fun j m a hj hm => ?_, by simpa using r.len, fun j s e => ?_⟩
  · split at ha
    · exact r.fr n a ha
    · split at ha
      · cases ha
      · exact r.fr j a ha
  · split at ha
    · exact r.mu n a ha
    · split at ha
      · cases ha
      · exact r.mu j a ha
  · split at hj
    · split at hm
      · rename_i q1 q2; rw [q1, q2]
      · split at hm
        · cases hm
        · rename_i q; exact absurd (r.dj m n a hm hj) q
    · split at hj
      · cases hj
      · split at hm
        · rename_i q _; exact absurd (r.dj j n a hj hm) q
        · split at hm
          · cases hm
          · exact r.dj j m a hj hm
  · by_cases q : j = i
    · subst q
      have hl : j < (env.set n .no).length := by
        have := (List.getElem?_eq_some_iff.mp e).1
        simpa using this
      rw [List.getElem?_set_self hl] at e
      cases e
      rw [List.getElem?_set_self (by rw [← r.len]; simpa using hl)]
      simp only [if_pos]
      exact ⟨l, xs, rfl, e2, e3, e4⟩
    · rw [List.getElem?_set_ne (Ne.symm q)] at e
      rw [List.getElem?_set_ne (Ne.symm q)]
      simp only [if_neg q]
      by_cases q' : j = n
      · subst q'
        have hl : j < env.length := (List.getElem?_eq_some_iff.mp h).1
        rw [List.getElem?_set_self hl] at e
        cases e
        simp only [if_pos]
        exact rfl
      · rw [List.getElem?_set_ne (Ne.symm q')] at e
        simp only [if_neg q']
        exact r.sl j s e
theorem Rz.own (r : Rz K B Z fps env σ H) {n : Nat} (h : env[n]? = some (.ow ds)) : ∃ l xs, σ[n]? = some (some (.ref l)) ∧ fps n = [l] ∧ H l = some (.lst xs) ∧ Dqs K Z xs ds := by
  obtain ⟨l, xs, e1, e2, e3, e4⟩ := r.sl n _ h
  refine ⟨l, xs, ?_, e2, e3, e4⟩
  cases q : σ[n]? with
  | none => rw [q] at e1; cases e1
  | some w => rw [q] at e1; cases w with
    | none => cases e1
    | some z => cases e1; rfl
/-- one's own list is changed -/
theorem Rz.setOwn (r : Rz K B Z fps env σ H) {n : Nat} {l : Addr} {ys : List V} (h : env[n]? = some (.ow ds)) (hl : fps n = [l]) (hs : σ[n]? = some (some (.ref l))) (hd : Dqs K Z ys es) : R K B (env.set n (.ow es)) σ (upd H l (.lst ys)) :=
  r.change (i := n) (fp := [l]) (fun a h1 h2 => upd_ne (fun e => h2 (by simp [e]))) ⟨l, ys, by rw [hs]; rfl, rfl, upd_same, hd⟩ (fun a ha => by
    obtain rfl := List.mem_singleton.mp ha
    exact r.fr n a (by rw [hl]; simp)) fun j a hj ha h => by
    obtain rfl := List.mem_singleton.mp ha
    exact hj (r.dj j n a h (by rw [hl]; simp))
/-- xs.append(e) -/
theorem ws_append {n : Nat} (h : env[n]? = some (.ow ds)) (he : EvD K te env d) (l : lf d = true) (hz : ds.length < 10000000) (k : E.nx (env.set n (.ow (ds ++ [d])))) : WpS K B (tDrop (tBM K "list" rAppend (tVar n) (tCons te tNil))) env E := fun B' x σ H D r nx _ _ _ => by
  obtain ⟨Z, fps, r⟩ := r
  obtain ⟨p, xs, e1, e2, e3, e4⟩ := r.own h
  refine ⟨_, e1, .inl ⟨rfl, _, .inl (.inl e3)⟩, ?_⟩
  refine he σ H r.rp _ fun v H' x' hd => ?_
  obtain ⟨Z', g, hz'⟩ := r.lf_gro x' l hd
  refine ⟨p, xs, v, rfl, rfl, g.h _ _ e3, ?_, nx _ _ _ k ((r.mono g).setOwn h e2 e1 (dqs_app (dqs_mono e4 g.z) (.cons hz' .nil)))⟩
  rw [dqs_len e4]
  exact Nat.lt_trans hz (by decide)
/-- xs[i] = e -/
theorem ws_setitem {n m : Nat} {ti : TE} (h : env[n]? = some (.ow ds)) (he : EvD K te env d) (l : lf d = true) (hi : EvD K ti env (.int (m : Int))) (hm : m < ds.length) (k : E.nx (env.set n (.ow (ds.set m d)))) : WpS K B (tAsg te (gSub (tVar n) ti rSetL)) env E := fun B' x σ H D r nx _ _ _ => by
  obtain ⟨Z, fps, r⟩ := r
  obtain ⟨p, xs, e1, e2, e3, e4⟩ := r.own h
  refine he σ H r.rp _ fun v H' x' hd => ?_
  obtain ⟨Z', g, hz'⟩ := r.lf_gro x' l hd
  refine ⟨_, e1, ?_⟩
  refine hi σ H' (r.mono g).rp _ fun w H2 x2 hw => ?_
  have g2 := g.trans ((r.mono g).grow x2)
  refine ⟨p, xs, (m : Int), m, rfl, dq_int hw, g2.h _ _ e3, ?_, nx _ _ _ k ((r.mono g2).setOwn h e2 e1 (dqs_set hz' m (dqs_mono e4 g2.z)))⟩
  unfold ixN
  rw [if_pos (by omega), dqs_len e4, if_pos (by omega)]
  simp
/-- target = xs.pop() -/
theorem ws_pop {n : Nat} (h : env[n]? = some (.ow (ds ++ [d]))) (hb : Bd K g d bs) (k : E.nx (putEnv (env.set n (.ow ds)) bs)) : WpS K B (tAsg (tBM0 K "list" rPop (tVar n)) g) env E := fun B' x σ H D r nx _ _ _ => by
  obtain ⟨Z, fps, r⟩ := r
  obtain ⟨p, xs, e1, e2, e3, e4⟩ := r.own h
  have hl := dqs_len e4
  have hlen : xs.length = ds.length + 1 := by rw [hl]; simp
  obtain ⟨v, hv, hd⟩ := dqs_get (i := ds.length) (d := d) e4 (by simp)
  have hdrop : Dqs K Z xs.dropLast ds := by
    have := dqs_take ds.length e4
    rw [List.take_left] at this
    rw [List.dropLast_eq_take, hlen]
    simpa using this
  refine ⟨_, e1, .inl ⟨rfl, _, .inl (.inl e3)⟩, ⟨p, xs, v, rfl, rfl, e3, by rw [hlen]; simpa using hv, ?_⟩⟩
  obtain ⟨Z2, fps2, r2⟩ : ∃ Z2 fps2, Rz K B' Z2 fps2 (env.set n (.ow ds)) σ (upd H p (.lst xs.dropLast)) ∧ Ex Z Z2 := by
    obtain ⟨Z2, fps2, r2⟩ := r.setOwn (es := ds) h e2 e1 hdrop
    refine ⟨Z, fun j => if j = n then [p] else fps j, ⟨r.bz, fun a o e => ?_, fun j a ha => ?_, fun j a ha => ?_, fun j m a hj hm => ?_, r2.len, fun j s e => ?_⟩, Evl.Ex.refl _⟩
    · rw [upd_ne (fun q => by rw [q, r.fr n p (by rw [e2]; simp)] at e; cases e)]; exact r.zh a o e
    · split at ha
      · obtain rfl := List.mem_singleton.mp ha
        exact r.fr n a (by rw [e2]; simp)
      · exact r.fr j a ha
    · split at ha
      · obtain rfl := List.mem_singleton.mp ha
        exact ⟨_, upd_same, rfl⟩
      · rename_i q
        rw [upd_ne (fun z => q (r.dj j n a ha (by rw [e2, z]; simp)))]
        exact r.mu j a ha
    · split at hj
      · split at hm
        · rename_i q1 q2; rw [q1, q2]
        · rename_i q
          obtain rfl := List.mem_singleton.mp hj
          exact absurd (r.dj m n a hm (by rw [e2]; simp)) q
      · split at hm
        · rename_i q _
          obtain rfl := List.mem_singleton.mp hm
          exact absurd (r.dj j n a hj (by rw [e2]; simp)) q
        · exact r.dj j m a hj hm
    · by_cases q : j = n
      · subst q
        rw [List.getElem?_set_self (List.getElem?_eq_some_iff.mp h).1] at e
        cases e
        simp only [if_pos]
        exact ⟨p, _, by rw [e1]; rfl, rfl, upd_same, hdrop⟩
      · rw [List.getElem?_set_ne (Ne.symm q)] at e
        simp only [if_neg q]
        exact rep_mono (Evl.Ex.refl _) (fun a ha => upd_ne (fun z => q (r.dj j n a ha (by rw [e2, z]; simp)))) (r.sl j s e)
  refine hb Z2 _ v σ r2.1.zh (dq_mono hd r2.2) _ fun us hu => ?_
  obtain ⟨fps3, r3⟩ := R.putAll r2.1 hu
  exact nx _ _ _ k ⟨Z2, fps3, r3⟩

/-! return -/
theorem ws_ret (h : EvD K te env d) (k : ∀ v σ H', R K B env σ H' → Dq K H' v d → E.rt v H') : WpS K B (tRet te) env E := fun B' x σ H D r _ rt _ _ => by
  obtain ⟨Z, fps, r⟩ := r
  exact h σ H r.rp _ fun v H' x' hd => rt v H' (k v σ H' (R.base ⟨Z, fps, r.mono (r.grow x')⟩ x) hd)
theorem ws_retF (h : EvF K te env ds) (k : ∀ p xs σ H', R K B env σ H' → B p = none → H' p = some (.lst xs) → Dqs K H' xs ds → E.rt (.ref p) H') : WpS K B (tRet te) env E := fun B' x σ H D r _ rt _ _ => by
  obtain ⟨Z, fps, r⟩ := r
  exact h σ H r.rp _ fun p xs H' n x' hp hd => rt _ H' (k p xs σ H' (R.base ⟨Z, fps, r.mono (r.grow x')⟩ x) (Evl.fresh_back x (r.bn n)) hp hd)
/-- return x, x one's own list -/
theorem ws_retO {n : Nat} (h : env[n]? = some (.ow ds)) (k : ∀ p xs σ H', R K B env σ H' → B p = none → H' p = some (.lst xs) → Dqs K H' xs ds → E.rt (.ref p) H') : WpS K B (tRet (tVar n)) env E := fun B' x σ H D r _ rt _ _ => by
  obtain ⟨Z, fps, r⟩ := r
  obtain ⟨p, xs, e1, e2, e3, e4⟩ := r.own h
  refine ⟨_, e1, rt _ H (k p xs σ H (R.base ⟨Z, fps, r⟩ x) (Evl.fresh_back (x.trans r.bz) (r.fr n p (by rw [e2]; simp))) e3 (dqs_mono e4 r.zh))⟩

/-! if, while, for -/
theorem ws_if (h : EvB K tt env b) (h1 : b = true → WpS K B t env E) (h2 : b = false → WpS K B u env E) : WpS K B (tIfS tt t u) env E := fun B' x σ H D r n rt bk ct => by
  obtain ⟨Z, fps, r⟩ := r
  refine h σ H r.rp _ fun H' x' => ?_
  have r' : R K B' env σ H' := ⟨Z, fps, r.mono (r.grow x')⟩
  cases b with
  | true => exact h1 rfl B' x σ H' D r' n rt bk ct
  | false => exact h2 rfl B' x σ H' D r' n rt bk ct
theorem ws_while (I : Env → Prop) (μ : Env → Nat) (h0 : I env) (h : ∀ e, I e → ∃ b, EvB K tt e b ∧ (b = true → WpS K B t e { nx := fun e' => ∃ e2, Fg e' e2 ∧ I e2 ∧ μ e2 < μ e, rt := E.rt, bk := E.nx, ct := fun e' => ∃ e2, Fg e' e2 ∧ I e2 ∧ μ e2 < μ e }) ∧ (b = false → E.nx e)) : WpS K B (tWhile tt t) env E := fun B' x σ H D r n rt bk ct => by
  refine ⟨fun m σ' H' => ∃ e, I e ∧ μ e = m ∧ R K B' e σ' H', ⟨μ env, env, h0, rfl, r⟩, ?_⟩
  rintro m σ' H' ⟨e, he, rfl, r'⟩
  obtain ⟨b, hb, h1, h2⟩ := h e he
  obtain ⟨Z, fps, r'⟩ := r'
  refine hb σ' H' r'.rp _ fun H2 x2 => ?_
  have r2 : R K B' e σ' H2 := ⟨Z, fps, r'.mono (r'.grow x2)⟩
  cases b with
  | false => exact n e σ' H2 (h2 rfl) r2
  | true =>
    refine ⟨fun σ3 H3 => ∃ e2, I e2 ∧ μ e2 < μ e ∧ R K B' e2 σ3 H3, fun σ3 H3 ⟨e2, i2, l2, r3⟩ => ⟨μ e2, l2, e2, i2, rfl, r3⟩, ?_⟩
    exact h1 rfl B' x σ' H2 _ r2 (fun e' σ3 H3 ⟨e2, f, i2, l2⟩ r3 => ⟨e2, i2, l2, r3.fg f⟩) rt (fun e' σ3 H3 q r3 => n e' σ3 H3 q r3) (fun e' σ3 H3 ⟨e2, f, i2, l2⟩ r3 => ⟨e2, i2, l2, r3.fg f⟩)
/-- a for, by what holds between two turns -/
theorem ws_for {wi : TI} (hi : EvItZ K wi env ds) (I : Nat → Env → Prop) (h0 : ∃ e, Fg env e ∧ I 0 e)
    (h : ∀ n d e, ds[n]? = some d → I n e → ∃ bs, Bd K g d bs ∧ WpS K B t (putEnv e bs) { nx := fun e' => ∃ e2, Fg e' e2 ∧ I (n + 1) e2, rt := E.rt, bk := E.nx, ct := fun e' => ∃ e2, Fg e' e2 ∧ I (n + 1) e2 }) (hn : ∀ e, I ds.length e → E.nx e) : WpS K B (tFor wi g t) env E := fun B' x σ H D r n rt bk ct => by
  obtain ⟨Z, fps, r⟩ := r
  refine hi B' Z fps σ H r _ fun J Z1 H1 g1 ok => ?_
  have bz : Ex B' Z1 := r.bz.trans g1.z
  refine ⟨fun i m σ' H' => m = ds.length - i ∧ i ≤ ds.length ∧ ∃ e, I i e ∧ R K Z1 e σ' H', ⟨ds.length, by simp, Nat.zero_le _, ?_⟩, ?_⟩
  · obtain ⟨e, f, i0⟩ := h0
    have r1 := r.mono g1
    exact ⟨e, i0, R.fg ⟨Z1, fps, Evl.Ex.refl _, r1.zh, r1.fr, r1.mu, r1.dj, r1.len, r1.sl⟩ f⟩
  · rintro i m σ' H' ⟨rfl, hil, e, ie, r'⟩
    by_cases hlt : i < ds.length
    · refine .inr ⟨ok.goes i H' hlt r'.ex, fun σ2 H2 => ∃ e, I (i + 1) e ∧ R K Z1 e σ2 H2, fun σ2 H2 q => ⟨ds.length - (i + 1), by omega, rfl, hlt, q⟩, fun v Hy y => ?_⟩
      obtain ⟨d, hd, hy⟩ := ok.yields i H' v Hy hlt r'.ex y
      obtain ⟨bs, hb, hw⟩ := h i d e hd ie
      obtain ⟨Z2, fps2, r2⟩ := r'
      obtain ⟨Z3, g3, d3⟩ : ∃ Z3, Gro fps2 Z2 H' Z3 Hy ∧ Dq K Z3 v d := by
        rcases hy with ⟨rfl, hq⟩ | ⟨T, us, es, rfl, hT, rfl, ed, hq⟩
        · exact ⟨Z2, r2.gro, dq_mono hq r2.bz⟩
        · have g3 := r2.new (o := .tup us) hT
          exact ⟨_, g3, by rw [ed]; exact .tup (.inl (.inl upd_same)) (dqs_mono hq (r2.bz.trans g3.z))⟩
      have r3 := r2.mono g3
      refine hb Z3 Hy v σ' r3.zh d3 _ fun us hu => ?_
      obtain ⟨fps4, r4⟩ := R.putAll r3 hu
      refine hw Z1 (x.trans bz) _ Hy _ ⟨Z3, fps4, r4⟩ (fun e' σ5 H5 ⟨e2, f, i2⟩ r5 => ⟨e2, i2, r5.fg f⟩) rt (fun e' σ5 H5 q r5 => n e' σ5 H5 q (r5.base bz)) (fun e' σ5 H5 ⟨e2, f, i2⟩ r5 => ⟨e2, i2, r5.fg f⟩)
    · have ei : i = ds.length := by omega
      subst ei
      exact .inl ⟨ok.stops H' r'.ex, n e σ' H' (hn e ie) (r'.base bz)⟩
/-- a for, the slots told by the turn -/
theorem ws_forE {wi : TI} (hi : EvItZ K wi env ds) (ev : Nat → Env) (h0 : Fg env (ev 0))
    (h : ∀ n d, ds[n]? = some d → ∃ bs, Bd K g d bs ∧ WpS K B t (putEnv (ev n) bs) { nx := fun e' => Fg e' (ev (n + 1)), rt := E.rt, bk := E.nx, ct := fun e' => Fg e' (ev (n + 1)) }) (hn : E.nx (ev ds.length)) : WpS K B (tFor wi g t) env E :=
  ws_for hi (fun n e => e = ev n) ⟨_, h0, rfl⟩ (fun n d e hd ie => by
    obtain ⟨bs, hb, hw⟩ := h n d hd
    subst ie
    exact ⟨bs, hb, hw.mono (fun e q => ⟨_, q, rfl⟩) (fun _ _ q => q) (fun _ q => q) (fun e q => ⟨_, q, rfl⟩)⟩) fun e q => by rw [q]; exact hn
end

/-! ### a def's entry and end -/
section
variable {K : PySem.W.Frag} {H : Hp} {vs : List V} {ds : List D}
def env0 (n : Nat) (ds : List D) : Env := ds.map Sl.im ++ List.replicate (n - ds.length) Sl.no
theorem start_R {N : List Str} (h : Dqs K H vs ds) : R K H (env0 N.length ds) (start N vs) H := by
  have hl := dqs_len h
  refine ⟨H, fun _ => [], Evl.Ex.refl _, Evl.Ex.refl _, fun _ _ q => (nomatch q), fun _ _ q => (nomatch q), fun _ _ _ q => (nomatch q), ?_, fun i s e => ?_⟩
  · unfold env0 L2.start
    simp [hl]
  · unfold env0 at e
    unfold L2.start
    by_cases hi : i < ds.length
    · rw [List.getElem?_append_left (by simpa using hi), List.getElem?_map] at e
      cases q : ds[i]? with
      | none => rw [q] at e; cases e
      | some d =>
        rw [q] at e
        cases e
        obtain ⟨v, hv, hd⟩ := dqs_get h q
        rw [List.getElem?_append_left (by simp; omega), List.getElem?_map, hv]
        exact ⟨rfl, v, rfl, hd⟩
    · rw [List.getElem?_append_right (by simpa using hi), List.getElem?_replicate] at e
      split at e
      · cases e; exact rfl
      · cases e
/-- a def's body, from the word about its statements -/
theorem body_of {N : List Str} {ts : TS} {Q : VK} (h : Dqs K H vs ds) (w : WpS K H ts (env0 N.length ds) { nx := fun _ => False, rt := Q }) : ts { nx := fun _ H' => Q .non H', rt := Q } (start N vs) H :=
  w H (Evl.Ex.refl _) _ _ _ (start_R h) (fun _ _ _ q => q.elim) (fun _ _ q => q) (fun _ _ _ q => q.elim) (fun _ _ _ q => q.elim)
/-- what a promise of data wants of a return -/
theorem ret_spD {Sig : List D → D → Prop} {vs : List V} {Q : VK} {E : XK} (h : spD K Sig vs H Q E) : ∃ ds d, Dqs K H vs ds ∧ Sig ds d ∧ ∀ env v σ H', R K H env σ H' → Dq K H' v d → Q v H' := by
  obtain ⟨ds, d, h1, h2, h3⟩ := h
  exact ⟨ds, d, h1, h2, fun env v σ H' r hd => h3 v H' r.ex hd⟩
theorem ret_spF {Sig : List D → List D → Prop} {vs : List V} {Q : VK} {E : XK} (h : spF K Sig vs H Q E) : ∃ ds es, Dqs K H vs ds ∧ Sig ds es ∧ ∀ env p xs σ H', R K H env σ H' → H p = none → H' p = some (.lst xs) → Dqs K H' xs es → Q (.ref p) H' := by
  obtain ⟨ds, es, h1, h2, h3⟩ := h
  exact ⟨ds, es, h1, h2, fun env p xs σ H' r n hp hd => h3 p xs H' n r.ex hp hd⟩
end
end VL
/-! Vl5: a def of the text as its callers know it; which built-in names the module leaves alone. -/
namespace VL
open PySem PySem.Spec L2

/-- the module's names that are built in, still so -/
structure Mn (mg : Str → Option Value) : Prop where
  len : mg "len" = none
  list : mg "list" = none
  tuple : mg "tuple" = none
  max : mg "max" = none
  min : mg "min" = none
  abs : mg "abs" = none
  int : mg "int" = none
  range : mg "range" = none
  enumerate : mg "enumerate" = none
  zip : mg "zip" = none
  sorted : mg "sorted" = none
  sum : mg "sum" = none
/-- a def as its callers know it -/
structure Cal (P : Program) (w : World) (K : PySem.W.Frag) (mg : Str → Option Value) (base : Heap) (k : Nat) (x : Str) (ps : List Str) (sp : Sp) : Prop where
  ex : ∃ (f : Addr) (fd : FuncData), FnOk P w K mg base CX0 k f fd ps sp ∧ mg x = some (.ref f) ∧ PySem.W.keepIn K (.ref f) = true ∧ Binds K fd ps []
theorem Cal.pe {X : Cx} {k : Nat} {x : Str} {ps : List Str} {sp : Sp} {p pos : Pos} {e : Expr} {es : List Expr} {t : TA} (c : Cal X.prog X.w X.K X.mg X.base k x ps sp) (hr : Room k X.A) (hg : Gl X x) (ha : PA X (e :: es) t) (hdb : (x == ("__debug__" : Str)) = false := by decide)
    (he : starEach (e :: es) X.env = (false, eval e X.env) :: starEach es X.env := by rfl) (hpl : (backTo pos (starEach es X.env)).any (·.1) = false := by rfl) : PE X (.Call (.Name x p) (e :: es) [] pos) (tCall sp [] E0 t) := by
  obtain ⟨f, fd, h1, h2, h3, h4⟩ := c.ex
  exact pe_call h1 hr hg h2 h3 h4 .nil pass0 ha hdb he hpl
theorem Cal.mono {P : Program} {w : World} {K : PySem.W.Frag} {mg : Str → Option Value} {base : Heap} {k : Nat} {x : Str} {ps : List Str} {sp sp' : Sp} (c : Cal P w K mg base k x ps sp) (h : ∀ vs H Q E, sp' vs H Q E → sp vs H Q E) : Cal P w K mg base k x ps sp' := by
  obtain ⟨f, fd, h1, h2, h3, h4⟩ := c.ex
  exact ⟨f, fd, h1.imp h, h2, h3, h4⟩
end VL
namespace L2
open PySem PySem.Spec
theorem Room.unit1 {k : Nat} {A : Around} (r : Room k A) : A.units + 1 < cLine := by have := r.un; omega
theorem Room.units1 {k : Nat} {A : Around} (r : Room k A) : A.units + 65 < cLine := by have := r.un; omega
end L2
/-! Vl6: short words: data of ints and pairs, what equals what. -/
namespace VL
open PySem PySem.Spec L2

theorem ev_v {K : PySem.W.Frag} {env : VL.Env} {n : Nat} {s : Sl} {d : D} (h : env[n]? = some s := by rfl) (hv : s.view = some d := by rfl) : EvD K (tVar n) env d := ev_var h hv
abbrev iD (ns : List Int) : List D := ns.map PyData.int
/-- a pair of naturals, as data -/
abbrev tD (t : Nat × Nat) : D := .tuple [.int (t.1 : Nat), .int (t.2 : Nat)]
abbrev nD (n : Nat) : D := .int (n : Nat)

/-! ### plain data -/
def Shp (n : Nat) (d : D) : Prop := d.canLay0 = true ∧ d.depth ≤ n
theorem Shp.sh {n : Nat} {d : D} (h : Shp n d) (hn : n ≤ 64 := by decide) : SeqAt.shaped d = true := by
  unfold SeqAt.shaped
  rw [h.1, Bool.true_and]
  exact decide_eq_true (Nat.le_trans h.2 hn)
theorem Shp.mono {n m : Nat} {d : D} (h : Shp n d) (hn : n ≤ m) : Shp m d := ⟨h.1, Nat.le_trans h.2 hn⟩
theorem shp_int {n : Nat} {i : Int} : Shp n (.int i) := ⟨by simp [PyData.canLay0], by simp [PyData.depth]⟩
theorem shp_bool {n : Nat} {b : Bool} : Shp n (.bool b) := ⟨by simp [PyData.canLay0], by simp [PyData.depth]⟩
theorem shp_none {n : Nat} : Shp n .none := ⟨by simp [PyData.canLay0], by simp [PyData.depth]⟩
theorem lay_all : ∀ {ds : List D}, (∀ d ∈ ds, d.canLay0 = true) → PyData.canLayAll0 ds = true
  | [], _ => by simp [PyData.canLayAll0]
  | d :: ds, h => by
    simp only [PyData.canLayAll0, Bool.and_eq_true]
    exact ⟨h d (by simp), lay_all fun e he => h e (by simp [he])⟩
theorem dep_all {n : Nat} : ∀ {ds : List D}, (∀ d ∈ ds, d.depth ≤ n) → PyData.depthAll ds ≤ n
  | [], _ => by simp [PyData.depthAll]
  | d :: ds, h => by
    simp only [PyData.depthAll]
    have h1 := h d (by simp)
    have h2 := dep_all (ds := ds) fun e he => h e (by simp [he])
    omega
theorem shp_tup {n : Nat} {ds : List D} (h : ∀ d ∈ ds, Shp n d) : Shp (n + 1) (.tuple ds) := by
  have h1 := lay_all fun d hd => (h d hd).1
  have h2 := dep_all fun d hd => (h d hd).2
  refine ⟨by simpa [PyData.canLay0] using h1, ?_⟩
  simp only [PyData.depth]
  omega
theorem shp_lst {n : Nat} {ds : List D} (h : ∀ d ∈ ds, Shp n d) : Shp (n + 1) (.list ds) := by
  have h1 := lay_all fun d hd => (h d hd).1
  have h2 := dep_all fun d hd => (h d hd).2
  refine ⟨by simpa [PyData.canLay0] using h1, ?_⟩
  simp only [PyData.depth]
  omega
theorem shp_map {α : Type} {n : Nat} {enc : α → D} {xs : List α} (h : ∀ a, Shp n (enc a)) : ∀ d ∈ xs.map enc, Shp n d := fun d hd => by
  obtain ⟨a, _, rfl⟩ := List.mem_map.mp hd
  exact h a
theorem shp_tD {n : Nat} {t : Nat × Nat} : Shp (n + 1) (tD t) := shp_tup fun d hd => by
  rcases List.mem_cons.mp hd with rfl | hd
  · exact shp_int
  · rcases List.mem_cons.mp hd with rfl | hd
    · exact shp_int
    · cases hd
theorem lf_tD {t : Nat × Nat} : lf (tD t) = true := by simp [lf, lfs]
theorem lfs_map {α : Type} {enc : α → D} {xs : List α} (h : ∀ a, lf (enc a) = true) : lfs (xs.map enc) = true := lfs_of fun d hd => by
  obtain ⟨a, _, rfl⟩ := List.mem_map.mp hd
  exact h a

/-! ### equal data -/
theorem eqv_int {i j : Int} : PyData.eqv (.int i) (.int j) = (i == j) := by simp [PyData.eqv]
theorem eqv_intD {i j : Int} : PyData.eqv (.int i) (.int j) = decide (i = j) := by
  rw [eqv_int]; rfl
theorem eqvAll_map {α : Type} [DecidableEq α] {enc : α → D} (h : ∀ a b, PyData.eqv (enc a) (enc b) = decide (a = b)) : ∀ xs ys : List α, PyData.eqvAll (xs.map enc) (ys.map enc) = decide (xs = ys)
  | [], [] => by simp [PyData.eqvAll]
  | [], y :: ys => by simp [PyData.eqvAll]
  | x :: xs, [] => by simp [PyData.eqvAll]
  | x :: xs, y :: ys => by
    simp only [List.map_cons, PyData.eqvAll, h, eqvAll_map h xs ys]
    by_cases h1 : x = y <;> by_cases h2 : xs = ys <;> simp [h1, h2]
theorem eqv_lists {α : Type} [DecidableEq α] {enc : α → D} (h : ∀ a b, PyData.eqv (enc a) (enc b) = decide (a = b)) (xs ys : List α) : PyData.eqv (.list (xs.map enc)) (.list (ys.map enc)) = decide (xs = ys) := by
  simp only [PyData.eqv]
  exact eqvAll_map h xs ys
theorem eqv_tuples {α : Type} [DecidableEq α] {enc : α → D} (h : ∀ a b, PyData.eqv (enc a) (enc b) = decide (a = b)) (xs ys : List α) : PyData.eqv (.tuple (xs.map enc)) (.tuple (ys.map enc)) = decide (xs = ys) := by
  simp only [PyData.eqv]
  exact eqvAll_map h xs ys
theorem eqv_iD (xs ys : List Int) : PyData.eqv (.list (iD xs)) (.list (iD ys)) = decide (xs = ys) := eqv_lists (fun _ _ => eqv_intD) xs ys
theorem eqv_iDt (xs ys : List Int) : PyData.eqv (.tuple (iD xs)) (.tuple (iD ys)) = decide (xs = ys) := eqv_tuples (fun _ _ => eqv_intD) xs ys
theorem eqv_tD (s t : Nat × Nat) : PyData.eqv (tD s) (tD t) = decide (s = t) := by
  obtain ⟨a, b⟩ := s
  obtain ⟨c, d⟩ := t
  simp only [tD, PyData.eqv, PyData.eqvAll]
  by_cases h1 : a = c <;> by_cases h2 : b = d <;> simp [h1, h2]
  · intro h; omega
  · intro h; omega
  · intro h; omega
theorem any_map {α : Type} [DecidableEq α] {enc : α → D} (h : ∀ a b, PyData.eqv (enc a) (enc b) = decide (a = b)) (xs : List α) (a : α) : ((xs.map enc).any fun z => PyData.eqv z (enc a)) = decide (a ∈ xs) := by
  induction xs with
  | nil => simp
  | cons x xs ih =>
    rw [List.map_cons, List.any_cons, ih, h]
    by_cases h1 : x = a <;> by_cases h2 : a ∈ xs <;> simp [h1, h2]
    intro h3; exact h1 h3.symm
/-- n in (a, b) -/
theorem any_tD (t : Nat × Nat) (n : Nat) : ([PyData.int (t.1 : Nat), PyData.int (t.2 : Nat)].any fun z => PyData.eqv z (.int (n : Nat))) = (decide (t.1 = n) || decide (t.2 = n)) := by
  simp only [List.any_cons, List.any_nil, eqv_int, Bool.or_false]
  by_cases h1 : t.1 = n <;> by_cases h2 : t.2 = n <;> simp [h1, h2]
  all_goals omega

/-! ### walks by number -/
theorem enum_at {ds : List D} {i : Nat} {d : D} (h : (enumD ds)[i]? = some d) : ∃ e, ds[i]? = some e ∧ d = .tuple [.int (i : Nat), e] := by
  have hi : i < ds.length := by
    have := (List.getElem?_eq_some_iff.mp h).1
    rwa [enumD_len] at this
  refine ⟨ds[i], by simp [hi], ?_⟩
  rw [enumD_get (d := ds[i]) (by simp [hi])] at h
  exact (Option.some.inj h).symm
theorem range_at {lo hi : Int} {i : Nat} {d : D} (h : (rangeD lo hi)[i]? = some d) : i < (hi - lo).toNat ∧ d = .int (lo + (i : Nat)) := by
  have hl : i < (hi - lo).toNat := by
    have := (List.getElem?_eq_some_iff.mp h).1
    rwa [rangeD_len] at this
  rw [rangeD_get hl] at h
  exact ⟨hl, (Option.some.inj h).symm⟩
theorem map_at {α : Type} {enc : α → D} {xs : List α} {i : Nat} {d : D} (h : (xs.map enc)[i]? = some d) : ∃ a, xs[i]? = some a ∧ d = enc a := by
  rw [List.getElem?_map] at h
  cases q : xs[i]? with
  | none => rw [q] at h; cases h
  | some a => rw [q] at h; exact ⟨a, rfl, (Option.some.inj h).symm⟩
theorem enumD_map {α : Type} {enc : α → D} {xs : List α} : enumD (xs.map enc) = xs.zipIdx.map fun p => .tuple [.int (p.2 : Nat), enc p.1] := by
  unfold enumD
  rw [List.zipIdx_map, List.map_map]
  rfl
theorem zipD_map {α β : Type} {enc : α → D} {enc' : β → D} {xs : List α} {ys : List β} : zipD (xs.map enc) (ys.map enc') = (xs.zip ys).map fun p => .tuple [enc p.1, enc' p.2] := by
  unfold zipD
  rw [List.zip_map, List.map_map]
  rfl
theorem rangeD_nat {n : Nat} : rangeD 0 (n : Int) = (List.range n).map nD := by
  unfold rangeD
  simp [nD]
theorem rangeD_nat2 {m n : Nat} : rangeD (m : Int) (n : Int) = (List.range' m (n - m)).map nD := by
  unfold rangeD
  rw [List.range'_eq_map_range, List.map_map]
  have e : ((n : Int) - (m : Int)).toNat = n - m := by omega
  rw [e]
  rfl
/-- a comprehension without a test -/
theorem ef_lcM {K : PySem.W.Frag} {env : VL.Env} {wi : TI} {g : TG} {te : TE} {vs : List Nat} {α : Type} {xs : List α} {enc : α → D} (hi : EvIt K wi env (xs.map enc)) (w : α → D) (hz : xs.length ≤ 10000000)
    (turn : ∀ a ∈ xs, ∃ bs, Bd K g (enc a) bs ∧ (∀ j ∈ bs.map (·.1), j ∈ vs) ∧ EvD K te (putEnv (clr env vs) bs) (w a) ∧ lf (w a) = true) : EvF K (tLc wi g tYes te vs) env (xs.map w) := by
  have h := ef_lc (tt := tYes) hi (fun _ => true) w hz fun a ha => by
    obtain ⟨bs, h1, h2, h3, h4⟩ := turn a ha
    exact ⟨bs, h1, h2, eb_yes, fun _ => ⟨h3, h4⟩⟩
  have e : xs.filter (fun _ => true) = xs := by simp
  rwa [e] at h
end VL
/-! Vl7: dicts whose keys are ints and texts; lists of lists of one's own. -/
namespace VL
open PySem PySem.Spec L2

/-! ### dicts -/
def scal : D → Option V
  | .none => some .non
  | .bool b => some (.bl b)
  | .int i => some (.int i)
  | .str x => some (.str x)
  | _ => none
def keyD : Key → D
  | .inl i => .int i
  | .inr x => .str x
section
variable {K : PySem.W.Frag} {B B' Z Z' Z2 H H' H2 : Hp} {fps : Nat → List Addr} {env env' : Env} {σ : St} {ta tb te tc : TE} {t u : TS} {tas : TA} {d e : D} {ds es : List D} {dss : List (List D)} {i j k : Nat} {E : En} {b : Bool} {kvs : List (Key × V)} {key : Key}
theorem dq_scal {v w : V} (h : Dq K H v d) (s : scal d = some w) : v = w := by
  cases h <;> simp [scal] at s <;> exact s
theorem scal_dq {w : V} (s : scal d = some w) : Dq K H w d := by
  cases d <;> simp [scal] at s <;> subst s
  · exact .non
  · exact .bl _
  · exact .int _
  · exact .str _
theorem dq_key {v : V} (h : Dq K H v (keyD key)) : v = kV key := by
  cases key with
  | inl i => exact dq_int h
  | inr x => exact dq_str h
/-- a dict of one's own -/
def dkC (kvs : List (Key × V)) : Cu where
  φ v fp _ H := ∃ a, v = .ref a ∧ fp = [a] ∧ H a = some (.dK kvs)
  st v fp _ _ H H' _ k h := by
    obtain ⟨a, e1, e2, e3⟩ := h
    exact ⟨a, e1, e2, by rw [k a (by simp [e2])]; exact e3⟩
  mu v fp _ H h a ha := by
    obtain ⟨b, e1, e2, e3⟩ := h
    rw [e2] at ha
    obtain rfl := List.mem_singleton.mp ha
    exact ⟨_, e3, rfl⟩
theorem es_dnew : EvS K tDNewK env (.cu (dkC [])) := fun Bh Z fps σ H r Q q p hp =>
  q (.ref p) Z _ [p] (r.new0 (o := .dK []) hp) ⟨_, rfl, p, rfl, rfl, upd_same⟩ fun a ha => by
    obtain rfl := List.mem_singleton.mp ha
    exact ⟨hp, r.zn hp⟩
theorem RP.dk {n : Nat} (r : RP K H env σ) (h : env[n]? = some (.cu (dkC kvs))) : ∃ a, σ[n]? = some (some (.ref a)) ∧ H a = some (.dK kvs) := by
  obtain ⟨v, fp, e, a, rfl, _, e3⟩ := r.2.2 n _ h
  exact ⟨a, e, e3⟩
theorem ev_dget {n : Nat} {w : V} (h : env[n]? = some (.cu (dkC kvs))) (hk : EvD K te env (keyD key)) (hv : valV kvs key = some w) (hs : scal d = some w) : EvD K (tDGet (tVar n) te) env d := fun σ H r Q q => by
  obtain ⟨a, e1, e2⟩ := r.dk h
  refine ⟨_, e1, hk σ H r _ fun v H1 x1 d1 => ⟨a, w, rfl, ?_, q w H1 x1 (scal_dq hs)⟩⟩
  rw [dq_key d1, ← hv]
  exact DGet.k (x1 _ _ e2)
theorem eb_din {n : Nat} (h : env[n]? = some (.cu (dkC kvs))) (hk : EvD K te env (keyD key)) : EvB K (tB (tDIn te (tVar n))) env (valV kvs key).isSome := fun σ H r Q q => hk σ H r _ fun v H1 x1 d1 => by
  obtain ⟨a, e1, e2⟩ := (r.mono x1).dk h
  exact ⟨_, e1, a, _, rfl, by rw [dq_key d1]; exact DGet.k e2, _, rfl, q H1 x1⟩
theorem eb_dnotin {n : Nat} (h : env[n]? = some (.cu (dkC kvs))) (hk : EvD K te env (keyD key)) : EvB K (tB (tDNotIn te (tVar n))) env (!(valV kvs key).isSome) := fun σ H r Q q => hk σ H r _ fun v H1 x1 d1 => by
  obtain ⟨a, e1, e2⟩ := (r.mono x1).dk h
  exact ⟨_, e1, a, _, rfl, by rw [dq_key d1]; exact DGet.k e2, _, rfl, q H1 x1⟩
theorem Rz.dk {n : Nat} (r : Rz K B Z fps env σ H) (h : env[n]? = some (.cu (dkC kvs))) : ∃ a, σ[n]? = some (some (.ref a)) ∧ fps n = [a] ∧ H a = some (.dK kvs) := by
  obtain ⟨v, e1, a, rfl, e2, e3⟩ := r.sl n _ h
  refine ⟨a, ?_, e2, e3⟩
  cases q : σ[n]? with
  | none => rw [q] at e1; cases e1
  | some w => rw [q] at e1; cases w with
    | none => cases e1
    | some z => cases e1; rfl
/-- d[key] = v -/
theorem ws_dput {n : Nat} {w : V} (h : env[n]? = some (.cu (dkC kvs))) (hk : EvD K tb env (keyD key)) (hv : EvD K tc env d) (hs : scal d = some w) (hl : kvs.length < 10000000) (kk : E.nx (env.set n (.cu (dkC (putK kvs key w))))) : WpS K B (sDPut (tVar n) tb tc) env E := fun B' x σ H Dn r nx _ _ _ => by
  obtain ⟨Z, fps, r⟩ := r
  refine hv σ H r.rp _ fun v H1 x1 d1 => ?_
  have r1 := r.mono (r.grow x1)
  obtain ⟨a, e1, e2, e3⟩ := r1.dk h
  refine ⟨_, e1, hk σ H1 r1.rp _ fun y H2 x2 d2 => ?_⟩
  have r2 := r1.mono (r1.grow x2)
  rw [dq_key d2, dq_scal d1 hs]
  refine ⟨a, upd H2 a (.dK (putK kvs key w)), rfl, DPut.k (x2 _ _ e3) (Nat.lt_trans hl (by decide)), nx _ _ _ kk ?_⟩
  exact r2.change (i := n) (fp := [a]) (fun c h1 h2 => upd_ne (fun e => h2 (by simp [e]))) ⟨_, by rw [e1]; rfl, a, rfl, rfl, upd_same⟩ (fun c hc => by
    obtain rfl := List.mem_singleton.mp hc
    exact r2.fr n c (by rw [e2]; simp)) fun j c hj hc hh => by
    obtain rfl := List.mem_singleton.mp hc
    exact hj (r2.dj j n c hh (by rw [e2]; simp))

/-! ### lists of lists -/
theorem Own2.tup (e : TupEx Z Z') : ∀ {ls : List Addr} {dss : List (List D)}, Own2 K Z H ls dss → (∀ ds ∈ dss, lfs ds = true) → (∀ a ∈ ls, H' a = H a) → Own2 K Z' H' ls dss
  | _, _, .nil, _, _ => .nil
  | _, _, .cons h1 h2 h3, l, k => .cons (by rw [k _ (by simp)]; exact h1) (lfs_dq e _ _ (l _ (by simp)) h2) (Own2.tup e h3 (fun d hd => l d (by simp [hd])) fun a ha => k a (by simp [ha]))
theorem Own2.app {ls ms : List Addr} {dss ess : List (List D)} (h : Own2 K Z H ls dss) (h' : Own2 K Z H ms ess) : Own2 K Z H (ls ++ ms) (dss ++ ess) := by
  induction h with
  | nil => exact h'
  | cons h1 h2 _ ih => exact .cons h1 h2 ih
theorem Own2.len : ∀ {ls : List Addr} {dss : List (List D)}, Own2 K Z H ls dss → ls.length = dss.length
  | _, _, .nil => rfl
  | _, _, .cons _ _ h => by simp [h.len]
theorem Own2.get : ∀ {ls : List Addr} {dss : List (List D)} {i : Nat} {ds : List D}, Own2 K Z H ls dss → dss[i]? = some ds → ∃ a xs, ls[i]? = some a ∧ H a = some (.lst xs) ∧ Dqs K Z xs ds
  | _, _, _, _, .nil, e => by simp at e
  | _, _, 0, ds, .cons h1 h2 _, e => by simp at e; subst e; exact ⟨_, _, rfl, h1, h2⟩
  | _, _, i + 1, ds, .cons _ _ h, e => by
    obtain ⟨a, xs, e1, e2, e3⟩ := h.get (i := i) (ds := ds) (by simpa using e)
    exact ⟨a, xs, by simpa using e1, e2, e3⟩
/-- one of them is changed in place, or another put there -/
theorem Own2.set {ys : List V} {p : Addr} (hp : H' p = some (.lst ys)) (hd : Dqs K Z ys es) : ∀ {ls : List Addr} {dss : List (List D)} (i : Nat), Own2 K Z H ls dss → (∀ j a, j ≠ i → ls[j]? = some a → H' a = H a) → Own2 K Z H' (ls.set i p) (dss.set i es)
  | _, _, _, .nil, _ => .nil
  | _, _, 0, .cons h1 h2 h3, k => .cons hp hd (h3.mono (Evl.Ex.refl _) fun a ha => by
    obtain ⟨j, hj, e⟩ := List.getElem_of_mem ha
    exact k (j + 1) a (by omega) (by simp [List.getElem?_eq_getElem hj, e]))
  | _, _, i + 1, .cons h1 h2 h3, k => .cons (by rw [k 0 _ (by omega) rfl]; exact h1) h2 (Own2.set hp hd i h3 fun j a hj e => k (j + 1) a (by omega) (by simpa using e))
theorem Rz.o2 {n : Nat} (r : Rz K B Z fps env σ H) (h : env[n]? = some (.o2 dss)) : ∃ l ls, σ[n]? = some (some (.ref l)) ∧ fps n = l :: ls ∧ (l :: ls).Nodup ∧ H l = some (.lst (ls.map V.ref)) ∧ Own2 K Z H ls dss := by
  obtain ⟨l, ls, e1, e2, e3, e4, e5⟩ := r.sl n _ h
  refine ⟨l, ls, ?_, e2, by rw [← e2]; exact e3, e4, e5⟩
  cases q : σ[n]? with
  | none => rw [q] at e1; cases e1
  | some w => rw [q] at e1; cases w with
    | none => cases e1
    | some z => cases e1; rfl
theorem set_self {α : Type} {ls : List α} {i : Nat} {a : α} (h : ls[i]? = some a) : ls.set i a = ls := by
  apply List.ext_getElem?
  intro j
  by_cases q : j = i
  · subst q
    rw [List.getElem?_set_self (List.getElem?_eq_some_iff.mp h).1, h]
  · rw [List.getElem?_set_ne (Ne.symm q)]
/-- xss[i].append(e) -/
theorem ws_append2 {n m : Nat} {ti : TE} (h : env[n]? = some (.o2 dss)) (hi : EvD K ti env (.int (m : Int))) (hm : dss[m]? = some ds) (he : EvD K te env d) (l : lf d = true) (hz : ds.length < 10000000) (k : E.nx (env.set n (.o2 (dss.set m (ds ++ [d]))))) :
    WpS K B (tDrop (tBM K "list" rAppend (tOp (rIx K) (tVar n) ti) (tCons te tNil))) env E := fun B' x σ H Dn r nx _ _ _ => by
  obtain ⟨Z, fps, r⟩ := r
  obtain ⟨p, ls, e1, _, _, _, _⟩ := r.o2 h
  refine ⟨_, e1, hi σ H r.rp _ fun w H1 x1 d1 => ?_⟩
  have r1 := r.mono (r.grow x1)
  obtain ⟨p', ls', e1', e2, e3, e4, e5⟩ := r1.o2 h
  obtain ⟨a, xs, ha, hx, hd⟩ := e5.get hm
  rw [e1] at e1'
  cases e1'
  rw [dq_int d1]
  have hat : atI (ls'.map V.ref) (m : Int) = some (V.ref a) := atI_nat (by simp [ha])
  refine .inl ⟨p, ls'.map V.ref, m, .ref a, rfl, rfl, .inl (.inl e4), hat, .inl ⟨rfl, _, .inl (.inl hx)⟩, ?_⟩
  refine he σ H1 r1.rp _ fun v H2 x2 d2 => ?_
  obtain ⟨Z', g, hz'⟩ := r1.lf_gro x2 l d2
  have r2 := r1.mono g
  refine ⟨a, xs, v, rfl, rfl, x2 _ _ hx, by rw [dqs_len hd]; exact Nat.lt_trans hz (by decide), nx _ _ _ k ?_⟩
  have hal : a ∈ ls' := List.mem_of_getElem? ha
  have nd := List.nodup_cons.mp e3
  have hpa : p ≠ a := fun q => nd.1 (q ▸ hal)
  refine r2.change (i := n) (fp := p :: ls') (fun c h1 h2 => upd_ne (fun e => h2 (by simp [e, hal]))) ⟨p, ls', by rw [e1]; rfl, rfl, e3, by rw [upd_ne hpa]; exact x2 _ _ e4, ?_⟩ (fun c hc => r2.fr n c (by rw [e2]; exact hc)) fun j c hj hc hh => hj (r2.dj j n c hh (by rw [e2]; exact hc))
  have o2' : Own2 K Z' H2 ls' dss := e5.mono g.z fun c hc => by
    obtain ⟨o, e, _⟩ := e5.mu c hc
    rw [e, x2 c o e]
  have := Own2.set (H' := upd H2 a (.lst (xs ++ [v]))) upd_same (dqs_app (dqs_mono hd g.z) (.cons hz' .nil)) m o2' fun j c hj hc => upd_ne (fun q => by
    subst q
    obtain ⟨j1, j2⟩ := List.getElem?_eq_some_iff.mp hc
    obtain ⟨m1, m2⟩ := List.getElem?_eq_some_iff.mp ha
    have pw := List.pairwise_iff_getElem.mp (List.nodup_iff_pairwise_ne.mp nd.2)
    rcases Nat.lt_or_gt_of_ne hj with q | q
    · exact pw j m j1 m1 q (j2.trans m2.symm)
    · exact pw m j m1 j1 q (m2.trans j2.symm))
  rw [set_self ha] at this
  exact this
/-- xss[i] = a new list -/
theorem ws_setitem2 {n m : Nat} {ti : TE} (h : env[n]? = some (.o2 dss)) (he : EvF K te env es) (l : lfs es = true) (hi : EvD K ti env (.int (m : Int))) (hm : m < dss.length) (k : E.nx (env.set n (.o2 (dss.set m es)))) :
    WpS K B (tAsg te (gSub (tVar n) ti rSetL)) env E := fun B' x σ H Dn r nx _ _ _ => by
  obtain ⟨Z, fps, r⟩ := r
  refine he σ H r.rp _ fun q xs H1 n1 x1 hq hd => ?_
  obtain ⟨Z', g, hz', hk⟩ := r.lfs_gro x1 l hd
  have r1 := r.mono g
  obtain ⟨p, ls, e1, e2, e3, e4, e5⟩ := r1.o2 h
  refine ⟨_, e1, hi σ H1 r1.rp _ fun w H2 x2 d2 => ?_⟩
  have r2 := r1.mono (r1.grow x2)
  obtain ⟨p', ls', e1', e2', e3', e4', e5'⟩ := r2.o2 h
  rw [e1] at e1'
  cases e1'
  rw [e2] at e2'
  cases e2'
  rw [dq_int d2]
  have nd := List.nodup_cons.mp e3
  -- q is not one of the frame's own
  have nf : ∀ j c, c ∈ fps j → c ≠ q := fun j c hc e => by
    obtain ⟨o, eo, _⟩ := r.mu j c hc
    rw [e, n1] at eo
    cases eo
  have hpq : p ≠ q := nf n p (by rw [e2]; simp)
  refine ⟨p, ls.map V.ref, (m : Int), m, rfl, rfl, e4', ?_, nx _ _ _ k ?_⟩
  · unfold ixN
    rw [if_pos (by omega), List.length_map, e5.len, if_pos (by omega)]
    simp
  refine r2.change (i := n) (fp := p :: ls.set m q) (fun c h1 h2 => upd_ne (fun e => h2 (by simp [e]))) ⟨p, ls.set m q, by rw [e1]; rfl, rfl, ?_, ?_, ?_⟩ (fun c hc => ?_) fun j c hj hc hh => ?_
  · refine List.nodup_cons.mpr ⟨fun hc => ?_, ?_⟩
    · rcases List.mem_or_eq_of_mem_set hc with hc | hc
      · exact nd.1 hc
      · exact hpq hc
    · have hql : q ∉ ls := fun hc => nf n q (by rw [e2]; simp [hc]) rfl
      rw [List.nodup_iff_pairwise_ne, List.pairwise_iff_getElem]
      intro i j hi hj hij e
      have hi' : i < ls.length := by simpa using hi
      have hj' : j < ls.length := by simpa using hj
      rw [List.getElem_set, List.getElem_set] at e
      split at e
      · split at e
        · omega
        · exact hql (e ▸ List.getElem_mem hj')
      · split at e
        · exact hql (e ▸ List.getElem_mem hi')
        · exact (List.pairwise_iff_getElem.mp (List.nodup_iff_pairwise_ne.mp nd.2) i j hi' hj' hij) e
  · rw [upd_same, List.map_set]
  · refine Own2.set (H' := upd H2 p (.lst ((ls.map V.ref).set m (.ref q)))) (p := q) (ys := xs) ?_ hz' m e5' fun j c hj hc => upd_ne (fun e => nd.1 (e ▸ List.mem_of_getElem? hc))
    rw [upd_ne (Ne.symm hpq)]
    exact x2 _ _ hq
  · rcases List.mem_cons.mp hc with rfl | hc
    · exact r2.fr n c (by rw [e2]; simp)
    · rcases List.mem_or_eq_of_mem_set hc with hc | rfl
      · exact r2.fr n c (by rw [e2]; simp [hc])
      · rw [hk c xs hq]; exact r.zn n1
  · rcases List.mem_cons.mp hc with rfl | hc
    · exact hj (r2.dj j n c hh (by rw [e2]; simp))
    · rcases List.mem_or_eq_of_mem_set hc with hc | rfl
      · exact hj (r2.dj j n c hh (by rw [e2]; simp [hc]))
      · exact nf j c hh rfl
/-- a list of lists is let go: frozen -/
theorem R.freeze2 (r : R K B env σ H) {i : Nat} (h : env[i]? = some (.o2 dss)) : R K B (env.set i (.im (.list (dss.map .list)))) σ H := by
  obtain ⟨Z, fps, r⟩ := r
  obtain ⟨l, ls, e1, e2, e3, e4, e5⟩ := r.o2 h
  let Z' : Hp := fun a => if a ∈ l :: ls then H a else Z a
  have zin : ∀ a, a ∈ l :: ls → Z' a = H a := fun a ha => if_pos ha
  have zout : ∀ a, a ∉ l :: ls → Z' a = Z a := fun a ha => if_neg ha
  have ez : Ex Z Z' := fun a o e => by
    by_cases q : a ∈ l :: ls
    · rw [zin a q]; exact r.zh a o e
    · rw [zout a q]; exact e
  refine ⟨Z', fun j => if j = i then [] else fps j, r.bz.trans ez, fun a o e => ?_, fun j a ha => ?_, fun j a ha => ?_, fun j k a hj hk => ?_, by simpa using r.len, fun j s e => ?_⟩
  · by_cases q : a ∈ l :: ls
    · rw [zin a q] at e; exact e
    · rw [zout a q] at e; exact r.zh a o e
  · split at ha
    · cases ha
    · rename_i q
      rw [zout a (fun z => q (r.dj j i a ha (by rw [e2]; exact z)))]
      exact r.fr j a ha
  · split at ha
    · cases ha
    · exact r.mu j a ha
  · split at hj
    · cases hj
    · split at hk
      · cases hk
      · exact r.dj j k a hj hk
  · by_cases q : j = i
    · subst q
      rw [List.getElem?_set_self (List.getElem?_eq_some_iff.mp h).1] at e
      cases e
      refine ⟨by simp, _, by rw [e1]; rfl, .lst (by rw [zin l (by simp)]; exact e4) ?_⟩
      have := (e5.mono (H' := Z') ez fun a ha => zin a (by simp [ha])).dq (Evl.Ex.refl Z')
      exact this
    · rw [List.getElem?_set_ne (Ne.symm q)] at e
      simp only [if_neg q]
      exact rep_mono ez (fun _ _ => rfl) (r.sl j s e)
theorem ws_freeze2 {n : Nat} (hn : env[n]? = some (.o2 dss)) (h : WpS K B t (env.set n (.im (.list (dss.map .list)))) E) : WpS K B t env E := fun B' x σ H D r => h B' x σ H D (r.freeze2 hn)
/-- an item of a frozen list -/
theorem ez_ixL {m : Nat} {ti : TE} (h : EvZ K ta env (.list ds)) (hi : EvD K ti env (.int (m : Int))) (hm : ds[m]? = some d) : EvZ K (tOp (rIx K) ta ti) env d := fun Bh Z fps σ H r Q q => h Bh Z fps σ H r _ fun v Z1 H1 g1 d1 => by
  have r1 := r.mono g1
  refine hi σ H1 r1.rp _ fun w H2 x2 d2 => ?_
  have g2 := r1.grow x2
  obtain ⟨a, xs, rfl, hs, hd⟩ := dq_list d1
  obtain ⟨z, hz, hd2⟩ := dqs_get hd hm
  rw [dq_int d2]
  exact .inl ⟨a, xs, m, z, rfl, rfl, .inl (.inl (x2 _ _ (g1.zh _ _ hs))), atI_nat hz, q z Z1 H2 (g1.trans g2) hd2⟩
/-- [new list for .. in ..]: a list of lists of one's own -/
theorem es_lc2 {wi : TI} {g : TG} {vs : List Nat} {α : Type} {xs : List α} {enc : α → D} (hi : EvIt K wi env (xs.map enc)) (w : α → List D) (hz : xs.length ≤ 10000000)
    (turn : ∀ a ∈ xs, ∃ bs, Bd K g (enc a) bs ∧ (∀ j ∈ bs.map (·.1), j ∈ vs) ∧ EvF K te (putEnv (clr env vs) bs) (w a) ∧ lfs (w a) = true) :
    EvS K (tLc wi g tYes te vs) env (.o2 (xs.map w)) := fun Bh Z fps σ H r Q q => hi σ H r.rp _ fun J H1 x1 ok D hD => by
  have hlen : (xs.map enc).length = xs.length := by simp
  have D0 : ∀ Hi : Hp, Ex H1 Hi → ∀ o, Ex H1 (upd Hi D o) := fun Hi e o a u h => by rw [upd_ne (ne_of_none h hD)]; exact e a u h
  have lw : ∀ i, ∀ ds ∈ (xs.take i).map w, lfs ds = true := fun i ds hd => by
    obtain ⟨a, ha, rfl⟩ := List.mem_map.mp hd
    obtain ⟨_, _, _, _, l⟩ := turn a (List.mem_of_mem_take ha)
    exact l
  refine ⟨fun i m Hi => m = xs.length - i ∧ i ≤ xs.length ∧ Ex H1 Hi ∧ ∃ ls, Hi D = some (.lst (ls.map V.ref)) ∧ (D :: ls).Nodup ∧ (∀ a ∈ ls, H1 a = none) ∧ Own2 K Hi Hi ls ((xs.take i).map w), ⟨xs.length, by simp, Nat.zero_le _, Evl.Ex.new hD, [], upd_same, by simp, by simp, .nil⟩, ?_⟩
  rintro i m Hi ⟨rfl, hil, ex, ls, hacc, nd, hls, ho⟩
  by_cases hlt : i < xs.length
  · refine .inr ⟨ok.goes i Hi (by rw [hlen]; exact hlt) ex, fun Hj => Ex H1 Hj ∧ ∃ ls, Hj D = some (.lst (ls.map V.ref)) ∧ (D :: ls).Nodup ∧ (∀ a ∈ ls, H1 a = none) ∧ Own2 K Hj Hj ls ((xs.take (i + 1)).map w), fun Hj ⟨a, b⟩ => ⟨xs.length - (i + 1), by omega, rfl, hlt, a, b⟩, fun x Hy y => ?_⟩
    obtain ⟨d, hd, hy⟩ := ok.yields i Hi x Hy (by rw [hlen]; exact hlt) ex y
    have hd' : d = enc xs[i] := by
      rw [List.getElem?_map, List.getElem?_eq_getElem hlt] at hd
      exact (Option.some.inj hd).symm
    subst hd'
    obtain ⟨xy, dy⟩ : Ex Hi Hy ∧ ∃ Z, Ex Z Hy ∧ Ex H1 Z ∧ Dq K Z x (enc xs[i]) := by
      rcases hy with ⟨rfl, h⟩ | ⟨T, us, es, rfl, hT, rfl, e, h⟩
      · exact ⟨Evl.Ex.refl _, H1, ex, Evl.Ex.refl _, h⟩
      · have hT1 : H1 T = none := Evl.fresh_back ex hT
        refine ⟨Evl.Ex.new hT, upd H1 T (.tup us), fun a o h => ?_, Evl.Ex.new hT1, ?_⟩
        · by_cases c : a = T
          · subst c; rw [upd_same] at h ⊢; exact h
          · rw [upd_ne c] at h ⊢; exact ex a o h
        · rw [e]; exact .tup (.inl (.inl upd_same)) (dqs_mono h (Evl.Ex.new hT1))
    obtain ⟨Z1, zy, hz1, dz⟩ := dy
    obtain ⟨bs, hb, hj, he, hl⟩ := turn xs[i] (List.getElem_mem hlt)
    refine hb Z1 Hy x (wipe σ vs) zy dz _ fun us hus => ⟨by rw [wipe_putAll hj, wipe_wipe], ?_⟩
    have rp : RP K Hy (putEnv (clr env vs) bs) (putAll (wipe σ vs) (bs.map (·.1)) us) := RP.putAll ((r.rp.mono (x1.trans (ex.trans xy))).clr vs) (dqs_mono hus zy)
    refine eb_yes _ Hy rp _ fun H3 x3 => ?_
    rw [if_pos rfl]
    refine he _ H3 (rp.mono x3) _ fun p ys H4 n4 x4 hp4 d4 => ?_
    have tk : xs.take (i + 1) = xs.take i ++ [xs[i]] := by rw [List.take_add_one, List.getElem?_eq_getElem hlt]; rfl
    have xi3 := xy.trans x3
    have hacc3 := xi3 _ _ hacc
    have hacc4 := x4 _ _ hacc3
    have ndD := List.nodup_cons.mp nd
    have pD : p ≠ D := fun q => by rw [q, hacc3] at n4; cases n4
    have pls : p ∉ ls := fun q => by
      obtain ⟨o, e, _⟩ := ho.mu p q
      rw [xi3 _ _ e] at n4
      cases n4
    have hlf' : ∀ ds ∈ (xs.take i).map w ++ [w xs[i]], lfs ds = true := fun ds hd => by
      have := lw (i + 1) ds (by rw [tk, List.map_append]; exact hd)
      exact this
    refine ⟨ls.map V.ref, hacc4, ?_, D0 _ (ex.trans (xi3.trans x4)) _, ls ++ [p], ?_, ?_, ?_, ?_⟩
    · rw [List.length_map, ho.len, List.length_map, List.length_take]
      show _ < 2 ^ 24
      omega
    · rw [upd_same]; simp
    · refine List.nodup_cons.mpr ⟨fun hm => ?_, List.nodup_append.mpr ⟨ndD.2, by simp, fun a ha b hb e => pls (by rw [← List.mem_singleton.mp hb, ← e]; exact ha)⟩⟩
      rcases List.mem_append.mp hm with hm | hm
      · exact ndD.1 hm
      · exact pD (List.mem_singleton.mp hm).symm
    · intro a ha
      rcases List.mem_append.mp ha with ha | ha
      · exact hls a ha
      · rw [List.mem_singleton.mp ha]
        exact Evl.fresh_back (ex.trans xi3) n4
    · have o4 : Own2 K H4 H4 ls ((xs.take i).map w) := ho.mono (xi3.trans x4) fun a ha => by
        obtain ⟨o, e, _⟩ := ho.mu a ha
        rw [e]; exact (xi3.trans x4) _ _ e
      have o5 : Own2 K H4 H4 (ls ++ [p]) ((xs.take i).map w ++ [w xs[i]]) := o4.app (.cons hp4 d4 .nil)
      rw [tk, List.map_append]
      refine o5.tup (fun a o e t => ?_) hlf' fun a ha => upd_ne fun e => ?_
      · by_cases c : a = D
        · subst c; rw [hacc4] at e; cases e; cases t
        · rw [upd_ne c]; exact e
      · subst e
        rcases List.mem_append.mp ha with ha | ha
        · exact ndD.1 ha
        · exact pD (List.mem_singleton.mp ha).symm
  · have e : i = xs.length := by omega
    subst e
    refine .inl ⟨by rw [← hlen]; exact ok.stops Hi ex, ?_⟩
    rw [List.take_length] at ho
    have g := r.grow (x1.trans ex)
    have r2 := r.mono g
    have gt := tupZ_gro r2
    have hlw : ∀ ds ∈ xs.map w, lfs ds = true := fun ds hd => lw xs.length ds (by rw [List.take_length]; exact hd)
    have tz : ∀ a o, Hi a = some o → isTup o = false → tupZ Z Hi a = Z a := fun a o e t => by
      unfold tupZ
      rw [e]
      simp [t]
    have zn : ∀ a, H1 a = none → Z a = none := fun a ha => r.zn (Evl.fresh_back x1 ha)
    refine q _ (tupZ Z Hi) Hi (D :: ls) (g.trans gt) ⟨D, ls, rfl, rfl, nd, hacc, ho.tup tupZ_ex hlw fun _ _ => rfl⟩ fun a ha => ?_
    have h1 : H1 a = none := by
      rcases List.mem_cons.mp ha with rfl | ha
      · exact hD
      · exact hls a ha
    refine ⟨Evl.fresh_back x1 h1, ?_⟩
    have : ∃ o, Hi a = some o ∧ isTup o = false := by
      rcases List.mem_cons.mp ha with rfl | ha
      · exact ⟨_, hacc, rfl⟩
      · exact ho.mu a ha
    obtain ⟨o, eo, to⟩ := this
    rw [tz a o eo to]
    exact zn a h1
end
end VL
/-! Vl8: new lists of which only a law is known. -/
namespace VL
open PySem PySem.Spec L2

def EvFP (K : PySem.W.Frag) (te : TE) (env : Env) (P : List D → Prop) : Prop := ∀ σ H, RP K H env σ → ∀ Q : VK, (∀ ds, P ds → ∀ p xs H', H p = none → Ex H H' → H' p = some (.lst xs) → Dqs K H' xs ds → Q (.ref p) H') → te σ H Q
def EvItP (K : PySem.W.Frag) (wi : TI) (env : Env) (P : List D → Prop) : Prop := ∀ B Z fps σ H, Rz K B Z fps env σ H → ∀ Rr : It → Hp → Prop, (∀ ds, P ds → ∀ J Z' H', Gro fps Z H Z' H' → ItOk K Z' J ds → Rr J H') → wi σ H Rr
/-- a promise: a new list of which the law is told -/
def spFP (K : PySem.W.Frag) (Pre : List D → Prop) (Post : List D → List D → Prop) : Sp := fun vs H Q _ => ∃ ds, Dqs K H vs ds ∧ Pre ds ∧ ∀ es, Post ds es → ∀ p xs H', H p = none → Ex H H' → H' p = some (.lst xs) → Dqs K H' xs es → Q (.ref p) H'
section
variable {K : PySem.W.Frag} {B B' Z Z' Z2 H H' H2 : Hp} {fps : Nat → List Addr} {env env' : Env} {σ : St} {ta tb te tc : TE} {t u : TS} {tas : TA} {d e : D} {ds es : List D} {i j k : Nat} {g : TG} {E : En} {P P' : List D → Prop}
theorem EvF.p (h : EvF K te env ds) (hp : P ds) : EvFP K te env P := fun σ H r Q q => h σ H r Q fun p xs H' n x h1 h2 => q ds hp p xs H' n x h1 h2
theorem ef_callP {Pre : List D → Prop} {Post : List D → List D → Prop} {E : XK} (ha : EvA K tas env ds) (hs : Pre ds) : EvFP K (tCall (spFP K Pre Post) [] E tas) env (Post ds) := fun σ H r Q q =>
  ha σ H r _ fun vs H1 x1 d1 => ⟨ds, by rw [List.append_nil]; exact d1, hs, fun es hp p xs H' n x h1 h2 => q es hp p xs H' (Evl.fresh_back x1 n) (x1.trans x) h1 h2⟩
theorem ef_revP (ha : EvFP K ta env P) : EvFP K (tRevL K ta) env fun ds => P ds.reverse := fun σ H r Q q =>
  ha σ H r _ fun ds hP a xs H1 n1 x1 hs hd => ⟨a, xs, rfl, .inl (.inl hs), fun p hp => q ds.reverse (show P ds.reverse.reverse by rw [List.reverse_reverse]; exact hP) p _ _ (Evl.fresh_back x1 hp) (x1.trans (Evl.Ex.new hp)) upd_same (dqs_mono (dqs_rev hd) (Evl.Ex.new hp))⟩
theorem ez_listP (h : EvFP K te env P) (l : ∀ ds, P ds → lfs ds = true) : EvItP K (iSeq K te) env P := fun B Z fps σ H r Rr q => h σ H r.rp _ fun ds hP p xs H' n x hp hd => by
  obtain ⟨Z', g, hz, hk⟩ := r.lfs_gro x (l ds hP) hd
  have zn : Z' p = none := by rw [hk p xs hp]; exact r.zn n
  have ez : Ex Z' (upd Z' p (.lst xs)) := Evl.Ex.new zn
  refine ⟨p, xs, rfl, .inl ⟨.inl (.inl hp), q ds hP _ (upd Z' p (.lst xs)) H' ⟨g.z.trans ez, g.h, fun a o e => ?_, fun i a ha => ?_⟩ (itok_list upd_same (dqs_mono hz ez))⟩⟩
  · by_cases c : a = p
    · subst c; rw [upd_same] at e; rw [← e]; exact hp
    · rw [upd_ne c] at e; exact g.zh a o e
  · have : a ≠ p := fun e => by
      obtain ⟨o, eo, _⟩ := r.mu i a ha
      rw [e, n] at eo; cases eo
    rw [upd_ne this]
    exact g.fr i a ha
/-- a for, over what only a law is known of -/
theorem ws_forPB {wi : TI} (hi : ∀ B' Z fps σ H, Ex B B' → Rz K B' Z fps env σ H → ∀ Rr : It → Hp → Prop, (∀ ds, P ds → ∀ J Z' H', Gro fps Z H Z' H' → ItOk K Z' J ds → Rr J H') → wi σ H Rr) (hall : ∀ ds, P ds → ∃ I : Nat → Env → Prop, (∃ e, Fg env e ∧ I 0 e) ∧
    (∀ n d e, ds[n]? = some d → I n e → ∃ bs, Bd K g d bs ∧ WpS K B t (putEnv e bs) { nx := fun e' => ∃ e2, Fg e' e2 ∧ I (n + 1) e2, rt := E.rt, bk := E.nx, ct := fun e' => ∃ e2, Fg e' e2 ∧ I (n + 1) e2 }) ∧ (∀ e, I ds.length e → E.nx e)) : WpS K B (tFor wi g t) env E := fun B' x σ H D r n rt bk ct => by
  obtain ⟨Z, fps, r⟩ := r
  refine hi B' Z fps σ H x r _ fun ds hP J Z1 H1 g1 ok => ?_
  obtain ⟨I, h0, h, hn⟩ := hall ds hP
  have bz : Ex B' Z1 := r.bz.trans g1.z
  refine ⟨fun i m σ' H' => m = ds.length - i ∧ i ≤ ds.length ∧ ∃ e, I i e ∧ R K Z1 e σ' H', ⟨ds.length, by simp, Nat.zero_le _, ?_⟩, ?_⟩
  · obtain ⟨e, f, i0⟩ := h0
    have r1 := r.mono g1
    exact ⟨e, i0, R.fg ⟨Z1, fps, Evl.Ex.refl _, r1.zh, r1.fr, r1.mu, r1.dj, r1.len, r1.sl⟩ f⟩
  · rintro i m σ' H' ⟨rfl, hil, e, ie, r'⟩
    by_cases hlt : i < ds.length
    · refine .inr ⟨ok.goes i H' hlt r'.ex, fun σ2 H2 => ∃ e, I (i + 1) e ∧ R K Z1 e σ2 H2, fun σ2 H2 q => ⟨ds.length - (i + 1), by omega, rfl, hlt, q⟩, fun v Hy y => ?_⟩
      obtain ⟨d, hd, hy⟩ := ok.yields i H' v Hy hlt r'.ex y
      obtain ⟨bs, hb, hw⟩ := h i d e hd ie
      obtain ⟨Z2, fps2, r2⟩ := r'
      obtain ⟨Z3, g3, d3⟩ : ∃ Z3, Gro fps2 Z2 H' Z3 Hy ∧ Dq K Z3 v d := by
        rcases hy with ⟨rfl, hq⟩ | ⟨T, us, es, rfl, hT, rfl, ed, hq⟩
        · exact ⟨Z2, r2.gro, dq_mono hq r2.bz⟩
        · have g3 := r2.new (o := .tup us) hT
          exact ⟨_, g3, by rw [ed]; exact .tup (.inl (.inl upd_same)) (dqs_mono hq (r2.bz.trans g3.z))⟩
      have r3 := r2.mono g3
      refine hb Z3 Hy v σ' r3.zh d3 _ fun us hu => ?_
      obtain ⟨fps4, r4⟩ := R.putAll r3 hu
      refine hw Z1 (x.trans bz) _ Hy _ ⟨Z3, fps4, r4⟩ (fun e' σ5 H5 ⟨e2, f, i2⟩ r5 => ⟨e2, i2, r5.fg f⟩) rt (fun e' σ5 H5 q r5 => n e' σ5 H5 q (r5.base bz)) (fun e' σ5 H5 ⟨e2, f, i2⟩ r5 => ⟨e2, i2, r5.fg f⟩)
    · have ei : i = ds.length := by omega
      subst ei
      exact .inl ⟨ok.stops H' r'.ex, n e σ' H' (hn e ie) (r'.base bz)⟩
theorem ws_forP {wi : TI} (hi : EvItP K wi env P) (hall : ∀ ds, P ds → ∃ I : Nat → Env → Prop, (∃ e, Fg env e ∧ I 0 e) ∧
    (∀ n d e, ds[n]? = some d → I n e → ∃ bs, Bd K g d bs ∧ WpS K B t (putEnv e bs) { nx := fun e' => ∃ e2, Fg e' e2 ∧ I (n + 1) e2, rt := E.rt, bk := E.nx, ct := fun e' => ∃ e2, Fg e' e2 ∧ I (n + 1) e2 }) ∧ (∀ e, I ds.length e → E.nx e)) : WpS K B (tFor wi g t) env E :=
  ws_forPB (fun B' Z fps σ H _ r => hi B' Z fps σ H r) hall
theorem ret_spFP {Pre : List D → Prop} {Post : List D → List D → Prop} {vs : List V} {Q : VK} {E : XK} (h : spFP K Pre Post vs H Q E) : ∃ ds, Dqs K H vs ds ∧ Pre ds ∧ ∀ es, Post ds es → ∀ env p xs σ H', R K H env σ H' → H p = none → H' p = some (.lst xs) → Dqs K H' xs es → Q (.ref p) H' := by
  obtain ⟨ds, h1, h2, h3⟩ := h
  exact ⟨ds, h1, h2, fun es hp env p xs σ H' r n hx hd => h3 es hp p xs H' n r.ex hx hd⟩
end
end VL
/-! Vl9: sorted, of pairs of ints. -/
namespace VL
open PySem PySem.Spec L2

abbrev pD (p : Int × Int) : D := .tuple [.int p.1, .int p.2]
def rSortedQ (K : PySem.W.Frag) : List V → Hp → VK → Prop := fun vs H Q => ∃ (a : Addr) (xs : List V) (ps : List (Int × Int)), vs = [V.ref a] ∧ SqL K H a xs ∧ Dqs K H xs (ps.map pD) ∧
  ∀ ys (qs : List (Int × Int)) p, qs.Perm ps → (qs.Pairwise fun x y => SrtO.lexB y x = false) → Dqs K H ys (qs.map pD) → H p = none → Q (.ref p) (upd H p (.lst ys))
/-- the two ints of a pair's object -/
def pairAt (h : Heap) : Value → Int × Int
  | .ref t => match h.get? t with
    | some o => match o.data with
      | .seq its _ => match its.toList with
        | [.int i _, .int j _] => (i, j)
        | _ => (0, 0)
      | _ => (0, 0)
    | none => (0, 0)
  | _ => (0, 0)
theorem dqs_of_all {K : PySem.W.Frag} {H : Hp} {α : Type} {f : α → V} {g : α → D} : ∀ {l : List α}, (∀ a ∈ l, Dq K H (f a) (g a)) → Dqs K H (l.map f) (l.map g)
  | [], _ => .nil
  | a :: l, h => .cons (h a (by simp)) (dqs_of_all fun b hb => h b (by simp [hb]))
section
variable {X : Cx}
theorem cr_sortedQ : CallR X (.builtin "sorted") (rSortedQ X.K) := by
  intro pins s σ H vs us Q I r h
  obtain ⟨a, xs, ps, rfl, hs, hx, q⟩ := h
  obtain ⟨its, rv, hl, hz⟩ := I.list hs
  obtain ⟨u, rfl, ru⟩ := vals1 r
  obtain rfl : u = Value.ref a := ru
  have hx' : ∀ x ∈ xs, ∃ t p, x = V.ref t ∧ SqT X.K H t [.int p.1, .int p.2] ∧ Dq X.K H x (pD p) := fun x m => by
    obtain ⟨i, hi, rfl⟩ := List.getElem_of_mem m
    obtain ⟨d, hd, hq⟩ := dqs_getV hx (List.getElem?_eq_getElem hi)
    obtain ⟨p, _, rfl⟩ := List.mem_map.mp (List.mem_of_getElem? hd)
    obtain ⟨t, ws, e, h1, h2⟩ := dq_tuple hq
    cases h2 with
    | cons a1 a2 =>
      cases a2 with
      | cons b1 b2 =>
        cases b2
        rw [dq_int a1, dq_int b1] at h1
        exact ⟨t, p, e, h1, hq⟩
  obtain ⟨e1, e2⟩ := refs_back rv fun x m => by
    obtain ⟨t, p, e, _⟩ := hx' x m
    exact ⟨t, e⟩
  have look : ∀ v ∈ its, ∃ t o t1 t2 n, v = Value.ref t ∧ s.heap.get? t = some o ∧ o.cls = .type "tuple" ∧ o.data = .seq #[.int (pairAt s.heap v).1 t1, .int (pairAt s.heap v).2 t2] n ∧ Dq X.K H (backV v) (pD (pairAt s.heap v)) := fun v hv => by
    obtain ⟨t, rfl⟩ := e2 v hv
    have hm : V.ref t ∈ xs := by rw [e1]; exact List.mem_map.mpr ⟨_, hv, rfl⟩
    obtain ⟨t', p, e, ht, hq⟩ := hx' _ hm
    cases e
    obtain ⟨its2, r2, ⟨o, ho, hc, n, hd⟩, _⟩ := I.tuple ht
    obtain ⟨u1, u2, rfl, ri, rj⟩ := vals2 r2
    obtain ⟨t1, rfl⟩ := ri
    obtain ⟨t2, rfl⟩ := rj
    have e : pairAt s.heap (.ref t) = p := by
      unfold pairAt
      simp only [ho, hd]
    rw [e]
    exact ⟨t, o, t1, t2, n, rfl, ho, hc, hd, hq⟩
  have hps : its.map (pairAt s.heap) = ps := by
    have h1 : Dqs X.K H (its.map backV) (its.map fun v => pD (pairAt s.heap v)) := dqs_of_all fun v hv => by
      obtain ⟨_, _, _, _, _, _, _, _, _, hq⟩ := look v hv
      exact hq
    rw [← e1] at h1
    have h3 : ∀ {ws : List V} {ps qs : List (Int × Int)}, (∀ t ws us, SqT X.K H t ws → SqT X.K H t us → ws = us) → Dqs X.K H ws (ps.map pD) → Dqs X.K H ws (qs.map pD) → ps = qs := by
      intro ws ps qs inj
      induction ws generalizing ps qs with
      | nil =>
        intro h1 h2
        cases ps with
        | nil => cases qs with
          | nil => rfl
          | cons => cases h2
        | cons => cases h1
      | cons w ws ih =>
        intro h1 h2
        cases ps with
        | nil => cases h1
        | cons p ps => cases qs with
          | nil => cases h2
          | cons p' qs =>
            cases h1 with
            | cons a1 a2 => cases h2 with
              | cons b1 b2 =>
                rw [ih a2 b2]
                congr 1
                cases a1 with
                | tup s1 c1 => cases b1 with
                  | tup s2 c2 =>
                    rw [inj _ _ _ s2 s1] at c2
                    cases c1 with
                    | cons x1 x2 => cases x2 with
                      | cons y1 y2 => cases c2 with
                        | cons z1 z2 => cases z2 with
                          | cons u1 u2 =>
                            have := (dq_int x1).symm.trans (dq_int z1)
                            have h2 := (dq_int y1).symm.trans (dq_int u1)
                            cases p; cases p'
                            simp only at this h2
                            cases this; cases h2; rfl
    exact h3 (fun t ws us a b => I.tuple_inj a b) (by rw [List.map_map]; exact h1) hx
  refine SrtO.sorted_pairsO (k := pairAt s.heap) hl.isList (by rw [← rv.length]; exact hz) (fun v hv => ?_) fun h' d out h1 h2 kp hd hn => ?_
  · obtain ⟨t, o, t1, t2, n, e, ho, hc, hd, _⟩ := look v hv
    exact ⟨t, o, t1, t2, n, e, ho, hc, hd⟩
  · have hout : ∀ u ∈ out, u ∈ its := fun u hu => h2.perm.mem_iff.mp hu
    have h3 : ∀ u ∈ out, ∃ a, u = Value.ref a := fun u hu => e2 u (hout u hu)
    obtain ⟨n, hn⟩ := hn
    have hlen : (out.map backV).length ≤ sizeLine := by
      rw [List.length_map, h2.perm.length_eq, ← rv.length]; exact hz
    refine ⟨.ref d, upd H d (.lst (out.map backV)), I.laid (t' := s.toks) kp hd ⟨hlen, out, n, vals_back h3, hn⟩, rfl, q _ (out.map (pairAt s.heap)) d (by rw [← hps]; exact h2.perm.map _) (SrtO.srtd_map (lt := fun x y => SrtO.lexB x y) h1) ?_ (I.hok.fresh hd)⟩
    rw [List.map_map]
    exact dqs_of_all fun u hu => by
      obtain ⟨_, _, _, _, _, _, _, _, _, hq⟩ := look u (hout u hu)
      exact hq
end
/-- sorted, as said -/
def leT (a b : Nat × Nat) : Bool := decide (a.1 < b.1) || (decide (a.1 = b.1) && decide (a.2 ≤ b.2))
def srt (l : List (Nat × Nat)) : List (Nat × Nat) := l.mergeSort leT
theorem srt_perm (l : List (Nat × Nat)) : (srt l).Perm l := List.mergeSort_perm l leT
theorem leT_iff {a b : Nat × Nat} : leT a b = true ↔ a.1 < b.1 ∨ (a.1 = b.1 ∧ a.2 ≤ b.2) := by simp [leT]
theorem srt_sorted (l : List (Nat × Nat)) : (srt l).Pairwise fun a b => leT a b = true := List.pairwise_mergeSort (fun a b c h1 h2 => by
  rw [leT_iff] at *; omega) (fun a b => by
  rw [Bool.or_eq_true, leT_iff, leT_iff]; omega) l
theorem srt_uniq {l m : List (Nat × Nat)} (h : m.Perm l) (hs : m.Pairwise fun a b => leT a b = true) : m = srt l :=
  List.Perm.eq_of_pairwise (le := fun a b => leT a b = true) (fun a b _ _ h1 h2 => by
    rw [leT_iff] at *
    exact Prod.ext (by omega) (by omega)) hs (srt_sorted l) (h.trans (srt_perm l).symm)
section
variable {K : PySem.W.Frag} {env : Env} {te : TE}
theorem ef_sorted {l : List (Nat × Nat)} (h : EvD K te env (.list (l.map tD))) : EvF K (tCB (rSortedQ K) (tCons te tNil)) env ((srt l).map tD) := fun σ H r Q q => h σ H r _ fun v H1 x1 d1 => by
  obtain ⟨a, xs, rfl, hs, hd⟩ := dq_list d1
  have e : l.map tD = (l.map fun t => ((t.1 : Int), (t.2 : Int))).map pD := by rw [List.map_map]; rfl
  rw [e] at hd
  refine ⟨a, xs, _, rfl, .inl (.inl hs), hd, fun ys qs p hp hpw hq hn => ?_⟩
  have nat : ∀ c ∈ qs, ∃ t : Nat × Nat, c = ((t.1 : Int), (t.2 : Int)) := fun c hc => by
    obtain ⟨t, _, rfl⟩ := List.mem_map.mp (hp.mem_iff.mp hc)
    exact ⟨t, rfl⟩
  have hm : qs = (qs.map fun c => (c.1.toNat, c.2.toNat)).map fun t => ((t.1 : Int), (t.2 : Int)) := by
    rw [List.map_map]
    conv => lhs; rw [← List.map_id qs]
    apply List.map_congr_left
    intro c hc
    obtain ⟨t, rfl⟩ := nat c hc
    rfl
  have hpm : (qs.map fun c => (c.1.toNat, c.2.toNat)).Perm l := by
    have := hp.map fun c : Int × Int => (c.1.toNat, c.2.toNat)
    rw [List.map_map] at this
    have e2 : l.map ((fun c : Int × Int => (c.1.toNat, c.2.toNat)) ∘ fun t : Nat × Nat => ((t.1 : Int), (t.2 : Int))) = l := by
      conv => rhs; rw [← List.map_id l]
      apply List.map_congr_left
      intro t _
      rfl
    rw [e2] at this
    exact this
  have hsr : (qs.map fun c => (c.1.toNat, c.2.toNat)) = srt l := srt_uniq hpm (by
    rw [List.pairwise_map]
    refine hpw.imp_of_mem fun {x y} hx hy hxy => ?_
    obtain ⟨t, rfl⟩ := nat x hx
    obtain ⟨u, rfl⟩ := nat y hy
    have := SrtO.lexB_no.mp hxy
    rw [leT_iff]
    simp only [Int.toNat_natCast] at *
    omega)
  have hn0 := Evl.fresh_back x1 hn
  refine q p ys _ hn0 (x1.trans (Evl.Ex.new hn)) upd_same ?_
  rw [hm, hsr] at hq
  rw [List.map_map] at hq
  exact dqs_mono hq (Evl.Ex.new hn)
end
end VL
/-! Vl10: what a picking changes: values with an effect on one slot's own objects. -/
namespace VL
open PySem PySem.Spec L2

/-! ### the source of picks: a dict and its list of cells -/
abbrev kC : Key := .inr "cells"
abbrev kL : Key := .inr "left"
abbrev kM : Key := .inr "mixed"
abbrev kT : Key := .inr "turn"
def srcK (c : Addr) (l m t : Int) : List (Key × V) := [(kC, .ref c), (kL, .int l), (kM, .int m), (kT, .int t)]
def SrcX (d c : Addr) (l m t : Int) (cs : List Int) (H : Hp) : Prop := d ≠ c ∧ H d = some (.dK (srcK c l m t)) ∧ H c = some (.lst (cs.map V.int))
def Src (d c : Addr) (H : Hp) : Prop := ∃ l m t cs, SrcX d c l m t cs H
theorem SrcX.st {d c : Addr} {l m t : Int} {cs : List Int} {H H' : Hp} (h : SrcX d c l m t cs H) (k : ∀ a ∈ [d, c], H' a = H a) : SrcX d c l m t cs H' :=
  ⟨h.1, by rw [k d (by simp)]; exact h.2.1, by rw [k c (by simp)]; exact h.2.2⟩
theorem SrcX.mu {d c : Addr} {l m t : Int} {cs : List Int} {H : Hp} (h : SrcX d c l m t cs H) : ∀ a ∈ [d, c], ∃ o, H a = some o ∧ isTup o = false := fun a ha => by
  rcases List.mem_cons.mp ha with rfl | ha
  · exact ⟨_, h.2.1, rfl⟩
  · rw [List.mem_singleton.mp ha]; exact ⟨_, h.2.2, rfl⟩
def srcX (d c : Addr) (l m t : Int) (cs : List Int) : Cu where
  φ v fp _ H := v = .ref d ∧ fp = [d, c] ∧ SrcX d c l m t cs H
  st v fp _ _ H H' _ k h := ⟨h.1, h.2.1, h.2.2.st (by rw [← h.2.1]; exact k)⟩
  mu v fp _ H h := by rw [h.2.1]; exact h.2.2.mu
def srcC (d c : Addr) : Cu where
  φ v fp _ H := v = .ref d ∧ fp = [d, c] ∧ Src d c H
  st v fp _ _ H H' _ k h := by
    obtain ⟨e1, e2, l, m, t, cs, hs⟩ := h
    exact ⟨e1, e2, l, m, t, cs, hs.st (by rw [← e2]; exact k)⟩
  mu v fp _ H h := by
    obtain ⟨e1, e2, l, m, t, cs, hs⟩ := h
    rw [e2]; exact hs.mu
/-- no more than an address -/
def ptrC (c : Addr) : Cu where
  φ v fp _ _ := v = .ref c ∧ fp = []
  st _ _ _ _ _ _ _ _ h := h
  mu v fp _ H h a ha := by rw [h.2] at ha; cases ha
/-- a pick: 0 up to most -/
def pickOk (most r : Int) : Prop := 0 ≤ r ∧ (r < most ∨ r = 0)
def spPick : Sp := fun vs H Q _ => ∃ d c most, vs = [.ref d, .int most] ∧ most < 2 ^ 64 ∧ Src d c H ∧ ∀ r H', pickOk most r → (∀ a o, a ≠ d → a ≠ c → H a = some o → H' a = some o) → Src d c H' → Q (.int r) H'
/-- more data is made on the way -/
def spSrc (K : PySem.W.Frag) (Sig : List D → D → Prop) : Sp := fun vs H Q _ => ∃ d c ws ds, vs = .ref d :: ws ∧ Src d c H ∧ (∀ Z, (∀ v d, lf d = true → Dq K H v d → Dq K Z v d) → Dqs K Z ws ds) ∧ lfs ds = true ∧ (∃ e, Sig ds e) ∧
  ∀ e v H', Sig ds e → (∀ a o, a ≠ d → a ≠ c → H a = some o → H' a = some o) → Src d c H' → Dq K H' v e → lf e = true → Q v H'
/-- one's own copy of what the caller has, but for the source -/
def offS (d c : Addr) (H : Hp) : Hp := fun a => if a = d ∨ a = c then none else H a
theorem offS_ex (d c : Addr) (H : Hp) : Ex (offS d c H) H := fun a o e => by
  unfold offS at e
  split at e
  · cases e
  · exact e
theorem offS_keep {d c : Addr} {H H' : Hp} (x : Ex (offS d c H) H') : ∀ a o, a ≠ d → a ≠ c → H a = some o → H' a = some o := fun a o h1 h2 e => x a o (by unfold offS; rw [if_neg (by simp [h1, h2])]; exact e)
theorem offS_tup {d c : Addr} {H : Hp} (hs : Src d c H) : TupEx H (offS d c H) := fun a o e t => by
  obtain ⟨l, m, u, cs, h⟩ := hs
  unfold offS
  rw [if_neg]
  · exact e
  · rintro (rfl | rfl)
    · rw [h.2.1] at e; cases e; cases t
    · rw [h.2.2] at e; cases e; cases t

/-! ### values with an effect -/
def EvX (K : PySem.W.Frag) (te : TE) (env : Env) (P : D → Prop) : Prop := ∀ B Z fps σ H, Rz K B Z fps env σ H → ∀ Q : VK, (∀ d v Z' H', P d → Ex Z Z' → Rz K B Z' fps env σ H' → Dq K Z' v d → Q v H') → te σ H Q
def EvXA (K : PySem.W.Frag) (ta : TA) (env : Env) (P : List D → Prop) : Prop := ∀ B Z fps σ H, Rz K B Z fps env σ H → ∀ Q : List V → Hp → Prop, (∀ ds vs Z' H', P ds → Ex Z Z' → Rz K B Z' fps env σ H' → Dqs K Z' vs ds → Q vs H') → ta σ H Q
def EvXB (K : PySem.W.Frag) (tt : TT) (env : Env) (P : Bool → Prop) : Prop := ∀ B Z fps σ H, Rz K B Z fps env σ H → ∀ Q : Bool → Hp → Prop, (∀ b Z' H', P b → Ex Z Z' → Rz K B Z' fps env σ H' → Q b H') → tt σ H Q
section
variable {K : PySem.W.Frag} {B B' Z Z' Z2 H H' H2 : Hp} {fps : Nat → List Addr} {env env' : Env} {σ : St} {ta tb te tc : TE} {t u : TS} {tt tu : TT} {tas : TA} {d e : D} {ds es : List D} {i j k : Int} {n : Nat} {E : En} {b : Bool} {P P' : D → Prop} {PA : List D → Prop}
theorem ex_z (h : EvZ K te env d) (hp : P d) : EvX K te env P := fun B Z fps σ H r Q q => h B Z fps σ H r _ fun v Z' H' g hd => q d v Z' H' hp g.z (r.mono g) hd
theorem exa_nil : EvXA K tNil env fun ds => ds = [] := fun B Z fps σ H r Q q => q [] [] Z H rfl (Evl.Ex.refl _) r .nil
theorem exa_cons (h : EvX K te env P) (hr : EvXA K tas env PA) : EvXA K (tCons te tas) env fun ds => ∃ d es, ds = d :: es ∧ P d ∧ PA es := fun B Z fps σ H r Q q =>
  h B Z fps σ H r _ fun d v Z1 H1 hp x1 r1 d1 => hr B Z1 fps σ H1 r1 _ fun ds vs Z2 H2 hps x2 r2 d2 => q (d :: ds) (v :: vs) Z2 H2 ⟨d, ds, rfl, hp, hps⟩ (x1.trans x2) r2 (.cons (dq_mono d1 x2) d2)
/-- an effect on one slot's own objects -/
theorem Rz.eff {c : Cu} (r : Rz K B Z fps env σ H) (h : env[n]? = some (.cu c)) (k : ∀ a o, a ∉ fps n → H a = some o → H' a = some o) (hs : ∀ v, σ[n]? = some (some v) → c.φ v (fps n) Z H → c.φ v (fps n) Z H') : Rz K B Z fps env σ H' where
  bz := r.bz
  zh := fun a o e => k a o (fun z => by rw [r.fr n a z] at e; cases e) (r.zh a o e)
  fr := r.fr
  mu := fun i a ha => by
    by_cases q : i = n
    · subst q
      obtain ⟨v, e1, e2⟩ := r.sl i _ h
      have e3 : σ[i]? = some (some v) := by
        cases q : σ[i]? with
        | none => rw [q] at e1; cases e1
        | some w => rw [q] at e1; cases w with
          | none => cases e1
          | some z => cases e1; rfl
      exact c.mu v _ Z H' (hs v e3 e2) a ha
    · obtain ⟨o, e, t⟩ := r.mu i a ha
      exact ⟨o, k a o (fun z => q (r.dj i n a ha z)) e, t⟩
  dj := r.dj
  len := r.len
  sl := fun i s e => by
    by_cases q : i = n
    · subst q
      rw [h] at e
      cases e
      obtain ⟨v, e1, e2⟩ := r.sl i _ h
      have e3 : σ[i]? = some (some v) := by
        cases q : σ[i]? with
        | none => rw [q] at e1; cases e1
        | some w => rw [q] at e1; cases w with
          | none => cases e1
          | some z => cases e1; rfl
      exact ⟨v, e1, hs v e3 e2⟩
    · exact rep_mono (Evl.Ex.refl _) (fun a ha => by
        obtain ⟨o, eo, _⟩ := r.mu i a ha
        rw [eo, k a o (fun z => q (r.dj i n a ha z)) eo]) (r.sl i s e)
theorem Rz.cu {c : Cu} (r : Rz K B Z fps env σ H) (h : env[n]? = some (.cu c)) : ∃ v, σ[n]? = some (some v) ∧ c.φ v (fps n) Z H := by
  obtain ⟨v, e1, e2⟩ := r.sl n _ h
  refine ⟨v, ?_, e2⟩
  cases q : σ[n]? with
  | none => rw [q] at e1; cases e1
  | some w => rw [q] at e1; cases w with
    | none => cases e1
    | some z => cases e1; rfl
/-- _law_pick(source, most) -/
theorem ex_pick {da ca : Addr} {E : XK} (h : env[n]? = some (.cu (srcC da ca))) (hm : EvX K te env fun d => d = .int k) (hk : k < 2 ^ 64 := by first | decide | omega) : EvX K (tCall spPick [] E (tCons (tVar n) (tCons te tNil))) env fun d => ∃ r, d = .int r ∧ pickOk k r := fun B Z fps σ H r Q q => by
  obtain ⟨v, e1, rfl, e2, hs⟩ := r.cu h
  refine ⟨_, e1, hm B Z fps σ H r _ fun d w Z1 H1 hd x1 r1 d1 => ?_⟩
  subst hd
  rw [dq_int d1]
  obtain ⟨v', e1', rfl, e2', hs'⟩ := r1.cu h
  refine ⟨da, ca, k, rfl, hk, hs', fun r' H2 hr' hk hs2 => ?_⟩
  exact q (.int r') _ Z1 H2 ⟨r', rfl, hr'⟩ x1 (r1.eff h (fun a o ha => hk a o (fun z => ha (by rw [e2']; simp [z])) (fun z => ha (by rw [e2']; simp [z]))) fun v hv hf => ⟨hf.1, hf.2.1, hs2⟩) (.int r')
/-- a call that picks, and gives data -/
theorem ex_src {da ca : Addr} {E : XK} {Sig : List D → D → Prop} (h : env[n]? = some (.cu (srcC da ca))) (ha : EvXA K tas env PA) (hp : ∀ ds, PA ds → lfs ds = true ∧ ∃ e, Sig ds e) : EvX K (tCall (spSrc K Sig) [] E (tCons (tVar n) tas)) env fun d => ∃ ds, PA ds ∧ Sig ds d := fun B Z fps σ H r Q q => by
  obtain ⟨v, e1, rfl, e2, hs⟩ := r.cu h
  refine ⟨_, e1, ha B Z fps σ H r _ fun ds ws Z1 H1 hd x1 r1 d1 => ?_⟩
  obtain ⟨v', e1', rfl, e2', hs'⟩ := r1.cu h
  obtain ⟨hl, hsig⟩ := hp ds hd
  refine ⟨da, ca, ws, ds, by simp, hs', fun Zf hf => ?_, hl, hsig, fun e w H2 hsg hk hs2 hw lw => ?_⟩
  · have h1 := dqs_mono d1 r1.zh
    clear d1 hd hsig
    have : ∀ {ds : List D} {ws : List V}, lfs ds = true → Dqs K H1 ws ds → Dqs K Zf ws ds := by
      intro ds
      induction ds with
      | nil => intro ws _ h; cases h; exact .nil
      | cons d ds ih =>
        intro ws l h
        simp only [lfs, Bool.and_eq_true] at l
        cases h with
        | cons a b => exact .cons (hf _ _ l.1 a) (ih l.2 b)
    exact this hl h1
  · have r2 := r1.eff (H' := H2) h (fun a o ha => hk a o (fun z => ha (by rw [e2']; simp [z])) (fun z => ha (by rw [e2']; simp [z]))) fun v hv hf => ⟨hf.1, hf.2.1, hs2⟩
    have g := tupZ_gro r2
    exact q e w _ H2 ⟨ds, hd, hsg⟩ (x1.trans g.z) (r2.mono g) (lf_frozen r2 lw hw)
theorem ex_ixL {ti : TE} (h : EvZ K ta env (.list ds)) (hi : EvX K ti env P') (hp : ∀ d, P' d → ∃ i e, d = .int i ∧ atI ds i = some e ∧ P e) : EvX K (tOp (rIx K) ta ti) env P := fun B Z fps σ H r Q q => h B Z fps σ H r _ fun v Z1 H1 g1 d1 =>
  hi B Z1 fps σ H1 (r.mono g1) _ fun d w Z2 H2 hd x2 r2 d2 => by
    obtain ⟨i, e, rfl, he, hpe⟩ := hp d hd
    obtain ⟨a, xs, rfl, hs, hq⟩ := dq_list (dq_mono d1 x2)
    obtain ⟨z, hz, hq2⟩ := dqs_atI hq he
    rw [dq_int d2]
    exact .inl ⟨a, xs, i, z, rfl, rfl, .inl (.inl (r2.zh _ _ hs)), hz, q e z Z2 H2 hpe (g1.z.trans x2) r2 hq2⟩
theorem EvX.mono (h : EvX K te env P) (hp : ∀ d, P d → P' d) : EvX K te env P' := fun B Z fps σ H r Q q => h B Z fps σ H r Q fun d v Z' H' hd => q d v Z' H' (hp d hd)
theorem EvXB.mono {P P' : Bool → Prop} (h : EvXB K tt env P) (hp : ∀ d, P d → P' d) : EvXB K tt env P' := fun B Z fps σ H r Q q => h B Z fps σ H r Q fun d Z' H' hd => q d Z' H' (hp d hd)
/-- two ints compared, whatever they are -/
theorem ex_eqI (ha : EvX K ta env fun d => ∃ r, d = .int r) (hb : EvD K tb env (.int j)) : EvXB K (tTest (tOp (rEqD K) ta tb)) env fun _ => True := fun B Z fps σ H r Q q =>
  ha B Z fps σ H r _ fun d v Z1 H1 ⟨i, hd⟩ x1 r1 d1 => by
    subst hd
    refine hb σ H1 r1.rp _ fun w H2 x2 d2 => ?_
    have r2 := r1.mono (r1.grow x2)
    have d1' := dq_mono (dq_mono d1 r1.zh) x2
    exact ⟨.int i, .int j, dq_dp d1', dq_dp d2, rfl, rfl, _, rfl, q _ Z1 H2 trivial x1 r2⟩
theorem exb_and {PB : Bool → Prop} (h1 : EvB K tt env b) (h2 : b = true → EvXB K tu env PB) : EvXB K (tAnd tt tu) env fun c => c = true → b = true ∧ PB true := fun B Z fps σ H r Q q => h1 σ H r.rp _ fun H1 x1 => by
  have r1 := r.mono (r.grow x1)
  cases b with
  | false => exact q false Z H1 (fun z => by cases z) (Evl.Ex.refl _) r1
  | true => exact h2 rfl B Z fps σ H1 r1 _ fun c Z2 H2 hc x2 r2 => q c Z2 H2 (fun z => ⟨rfl, z ▸ hc⟩) x2 r2
theorem ws_ifX {PB : Bool → Prop} (h : EvXB K tt env PB) (h1 : PB true → WpS K B t env E) (h2 : PB false → WpS K B u env E) : WpS K B (tIfS tt t u) env E := fun B' x σ H D r n rt bk ct => by
  obtain ⟨Z, fps, r⟩ := r
  refine h B' Z fps σ H r _ fun c Z1 H1 hc x1 r1 => ?_
  cases c with
  | true => exact h1 hc B' x σ H1 D ⟨Z1, fps, r1⟩ n rt bk ct
  | false => exact h2 hc B' x σ H1 D ⟨Z1, fps, r1⟩ n rt bk ct
/-- x = e, e with an effect -/
theorem ws_asgX {i : Nat} (h : EvX K te env P) (k : ∀ d, P d → E.nx (env.set i (.im d))) : WpS K B (tAsg te (gName i)) env E := fun B' x σ H D r n _ _ _ => by
  obtain ⟨Z, fps, r⟩ := r
  exact h B' Z fps σ H r _ fun d v Z1 H1 hd x1 r1 d1 => n _ _ _ (k d hd) (r1.put d1)
/-! ### within the pick -/
theorem RP.src {da ca : Addr} {l m t : Int} {cs : List Int} (r : RP K H env σ) (h : env[n]? = some (.cu (srcX da ca l m t cs))) : σ[n]? = some (some (.ref da)) ∧ SrcX da ca l m t cs H := by
  obtain ⟨v, fp, e, rfl, _, e3⟩ := r.2.2 n _ h
  exact ⟨e, e3⟩
theorem RP.ptr {ca : Addr} (r : RP K H env σ) (h : env[n]? = some (.cu (ptrC ca))) : σ[n]? = some (some (.ref ca)) := by
  obtain ⟨v, fp, e, rfl, _⟩ := r.2.2 n _ h
  exact e
theorem ev_srcGet {da ca : Addr} {l m t i : Int} {cs : List Int} {x : Str} (h : env[n]? = some (.cu (srcX da ca l m t cs))) (hx : valV (srcK ca l m t) (.inr x) = some (.int i)) : EvD K (tDGet (tVar n) (tC (.str x))) env (.int i) := fun σ H r Q q => by
  obtain ⟨e1, e2⟩ := r.src h
  refine ⟨_, e1, da, .int i, rfl, ?_, q _ H (Evl.Ex.refl H) (.int i)⟩
  rw [← hx]
  exact DGet.k (k := .inr x) e2.2.1
theorem ev_srcLen {da ca : Addr} {l m t : Int} {cs : List Int} {n2 : Nat} (h : env[n]? = some (.cu (srcX da ca l m t cs))) (h2 : env[n2]? = some (.cu (ptrC ca))) : EvD K (tCB (rLenQ K) (tCons (tVar n2) tNil)) env (.int (cs.length : Nat)) := fun σ H r Q q => by
  obtain ⟨e1, e2⟩ := r.src h
  refine ⟨_, r.ptr h2, ca, cs.map V.int, rfl, .inl (.inl (.inl e2.2.2)), ?_⟩
  rw [List.length_map]
  exact q _ H (Evl.Ex.refl H) (.int _)
theorem ws_srcCells {da ca : Addr} {l m t : Int} {cs : List Int} {i : Nat} (h : env[n]? = some (.cu (srcX da ca l m t cs))) (k : E.nx (env.set i (.cu (ptrC ca)))) : WpS K B (tAsg (tDGet (tVar n) (tC (.str "cells"))) (gName i)) env E := fun B' x σ H D r nx _ _ _ => by
  obtain ⟨Z, fps, r⟩ := r
  obtain ⟨e1, e2⟩ := r.rp.src h
  refine ⟨_, e1, da, .ref ca, rfl, DGet.k (k := kC) e2.2.1, nx _ _ _ k ?_⟩
  exact r.putOwn (fp := []) ⟨_, rfl, rfl, rfl⟩ (fun a ha => nomatch ha) fun j a _ ha => nomatch ha
theorem Rz.setSrc {da ca : Addr} {l m t l' m' t' : Int} {cs cs' : List Int} (r : Rz K B Z fps env σ H) (h : env[n]? = some (.cu (srcX da ca l m t cs))) (hk : ∀ a, a ≠ da → a ≠ ca → H' a = H a) (hs : SrcX da ca l' m' t' cs' H') : R K B (env.set n (.cu (srcX da ca l' m' t' cs'))) σ H' := by
  obtain ⟨v, e1, rfl, e2, e3⟩ := r.cu h
  refine r.change (i := n) (fp := [da, ca]) (fun a h1 h2 => hk a (fun z => h2 (by simp [z])) fun z => h2 (by simp [z])) ⟨_, by rw [e1]; rfl, rfl, rfl, hs⟩ (fun a ha => r.fr n a (by rw [e2]; exact ha)) fun j a hj ha hh => hj (r.dj j n a hh (by rw [e2]; exact ha))
theorem srcX_put {da ca : Addr} {l m t : Int} {cs : List Int} (h : SrcX da ca l m t cs H) {x : Str} {i l' m' t' : Int} (hx : putK (srcK ca l m t) (.inr x) (.int i) = srcK ca l' m' t') : SrcX da ca l' m' t' cs (upd H da (.dK (putK (srcK ca l m t) (.inr x) (.int i)))) :=
  ⟨h.1, by rw [upd_same, hx], by rw [upd_ne (Ne.symm h.1)]; exact h.2.2⟩
theorem ws_srcPut {da ca : Addr} {l m t l' m' t' i : Int} {cs : List Int} {x : Str} (h : env[n]? = some (.cu (srcX da ca l m t cs))) (he : EvD K te env (.int i)) (hx : putK (srcK ca l m t) (.inr x) (.int i) = srcK ca l' m' t') (k : E.nx (env.set n (.cu (srcX da ca l' m' t' cs)))) : WpS K B (sDPut (tVar n) (tC (.str x)) te) env E := fun B' xx σ H D r nx _ _ _ => by
  obtain ⟨Z, fps, r⟩ := r
  refine he σ H r.rp _ fun v H1 x1 d1 => ?_
  have r1 := r.mono (r.grow x1)
  obtain ⟨e1, e2⟩ := r1.rp.src h
  rw [dq_int d1]
  refine ⟨_, e1, da, upd H1 da (.dK (putK (srcK ca l m t) (.inr x) (.int i))), rfl, DPut.k (k := .inr x) e2.2.1 (by show 4 < 2 ^ 24; decide), nx _ _ _ k ?_⟩
  exact r1.setSrc h (fun a ha _ => upd_ne ha) (srcX_put e2 hx)
/-- source["left"] = cells.pop() -/
theorem ws_srcPop {da ca : Addr} {l m t i : Int} {cs : List Int} {n2 : Nat} (h : env[n]? = some (.cu (srcX da ca l m t (cs ++ [i])))) (h2 : env[n2]? = some (.cu (ptrC ca))) (k : E.nx (env.set n (.cu (srcX da ca i m t cs)))) : WpS K B (sDPut (tVar n) (tC (.str "left")) (tBM0 K "list" rPop (tVar n2))) env E := fun B' xx σ H D r nx _ _ _ => by
  obtain ⟨Z, fps, r⟩ := r
  obtain ⟨e1, e2⟩ := r.rp.src h
  have e3 := r.rp.ptr h2
  refine ⟨_, e3, .inl ⟨rfl, _, .inl (.inl e2.2.2)⟩, ca, (cs ++ [i]).map V.int, .int i, rfl, rfl, e2.2.2, by simp, ?_⟩
  have ed : ((cs ++ [i]).map V.int).dropLast = cs.map V.int := by simp
  rw [ed]
  have s1 : SrcX da ca l m t cs (upd H ca (.lst (cs.map V.int))) := ⟨e2.1, by rw [upd_ne e2.1]; exact e2.2.1, upd_same⟩
  refine ⟨_, e1, da, upd (upd H ca (.lst (cs.map V.int))) da (.dK (putK (srcK ca l m t) kL (.int i))), rfl, DPut.k (k := kL) s1.2.1 (by show 4 < 2 ^ 24; decide), nx _ _ _ k ?_⟩
  exact r.setSrc h (fun a ha hb => by rw [upd_ne ha, upd_ne hb]) (srcX_put s1 rfl)
/-- the frame of a def whose first argument is the source -/
theorem start_src {N : List Str} {da ca : Addr} {cc : Cu} {ws : List V} (hs : Src da ca H) (hc : cc.φ (.ref da) [da, ca] (offS da ca H) H) (hd : Dqs K (offS da ca H) ws ds) : R K (offS da ca H) (.cu cc :: (ds.map Sl.im ++ List.replicate (N.length - (ds.length + 1)) Sl.no)) (start N (.ref da :: ws)) H := by
  have hl := dqs_len hd
  refine ⟨offS da ca H, fun j => if j = 0 then [da, ca] else [], Evl.Ex.refl _, offS_ex _ _ _, fun i a ha => ?_, fun i a ha => ?_, fun i j a hi hj => ?_, ?_, fun i s e => ?_⟩
  · split at ha
    · unfold offS; rw [if_pos (by simpa using ha)]
    · cases ha
  · split at ha
    · exact cc.mu _ _ _ H hc a ha
    · cases ha
  · split at hi
    · split at hj
      · omega
      · cases hj
    · cases hi
  · unfold L2.start
    simp [hl]
  · unfold L2.start
    cases i with
    | zero =>
      cases e
      exact ⟨_, rfl, hc⟩
    | succ i =>
      rw [List.getElem?_cons_succ] at e
      rw [if_neg (by omega)]
      by_cases hi : i < ds.length
      · rw [List.getElem?_append_left (by simpa using hi), List.getElem?_map] at e
        cases q : ds[i]? with
        | none => rw [q] at e; cases e
        | some d =>
          rw [q] at e
          cases e
          obtain ⟨v, hv, hd⟩ := dqs_get hd q
          rw [List.map_cons, List.cons_append, List.getElem?_cons_succ, List.getElem?_append_left (by simp; omega), List.getElem?_map, hv]
          exact ⟨rfl, v, rfl, hd⟩
      · rw [List.getElem?_append_right (by simpa using hi), List.getElem?_replicate] at e
        split at e
        · cases e; exact rfl
        · cases e
end
end VL
/-! Vl11: the two helpers that pick. -/
namespace VL
open PySem PySem.Spec L2

section
variable {K : PySem.W.Frag} {B B' Z Z' Z2 H H' H2 : Hp} {fps : Nat → List Addr} {env env' : Env} {σ : St} {ta tb te tc : TE} {t u : TS} {tt tu : TT} {tas : TA} {d e : D} {ds es : List D} {i j k : Int} {n : Nat} {E : En} {b : Bool}
theorem ws_whileM (I : Nat → Env → Prop) (h0 : ∃ m, I m env) (h : ∀ m e, I m e → ∃ b, EvB K tt e b ∧ (b = true → WpS K B t e { nx := fun e' => ∃ e2 m', Fg e' e2 ∧ I m' e2 ∧ m' < m, rt := E.rt, bk := E.nx, ct := fun e' => ∃ e2 m', Fg e' e2 ∧ I m' e2 ∧ m' < m }) ∧ (b = false → E.nx e)) : WpS K B (tWhile tt t) env E := fun B' x σ H D r n rt bk ct => by
  obtain ⟨m0, h0⟩ := h0
  refine ⟨fun m σ' H' => ∃ e, I m e ∧ R K B' e σ' H', ⟨m0, env, h0, r⟩, ?_⟩
  rintro m σ' H' ⟨e, he, r'⟩
  obtain ⟨b, hb, h1, h2⟩ := h m e he
  obtain ⟨Z, fps, r'⟩ := r'
  refine hb σ' H' r'.rp _ fun H2 x2 => ?_
  have r2 : R K B' e σ' H2 := ⟨Z, fps, r'.mono (r'.grow x2)⟩
  cases b with
  | false => exact n e σ' H2 (h2 rfl) r2
  | true =>
    refine ⟨fun σ3 H3 => ∃ m', m' < m ∧ ∃ e2, I m' e2 ∧ R K B' e2 σ3 H3, fun σ3 H3 ⟨m', l2, e2, i2, r3⟩ => ⟨m', l2, e2, i2, r3⟩, ?_⟩
    exact h1 rfl B' x σ' H2 _ r2 (fun e' σ3 H3 ⟨e2, m', f, i2, l2⟩ r3 => ⟨m', l2, e2, i2, r3.fg f⟩) rt (fun e' σ3 H3 q r3 => n e' σ3 H3 q r3) (fun e' σ3 H3 ⟨e2, m', f, i2, l2⟩ r3 => ⟨m', l2, e2, i2, r3.fg f⟩)
end

/-! ### _law_pick -/
def rdPick (K : PySem.W.Frag) : TS :=
  (tSeq (tIfS (tTest (tOp (rI0 fun i j => .bl (decide (i < j))) (tVar 1) (tC (.int 2)))) (tRet (tC (.int 0))) tNext)
  (tSeq (tAsg (tDGet (tVar 0) (tC (.str "cells"))) (gName 2))
  (tSeq (tWhile (tAnd (tTest (tOp (rI0 fun i j => .bl (decide (i < j))) (tDGet (tVar 0) (tC (.str "left"))) (tC (.int 2)))) (tTest (tOp (rI0 fun i j => .bl (decide (j < i))) (tCB (rLenQ K) (tCons (tVar 2) tNil)) (tC (.int 0))))) (sDPut (tVar 0) (tC (.str "left")) (tBM0 K "list" rPop (tVar 2))))
  (tSeq (tAsg (tDGet (tVar 0) (tC (.str "left"))) (gName 3))
  (tSeq (tIfS (tTest (tOp (rI0 fun i j => .bl (decide (j < i))) (tVar 3) (tC (.int 1)))) (tSeq (sDPut (tVar 0) (tC (.str "left")) (tOp (rI CDivW fun i j => .int (i / j)) (tVar 3) (tVar 1)))
  (tRet (tOp (rI (fun _ j => 0 < j) fun i j => .int (i % j)) (tCB rIntQ (tCons (tVar 3) tNil)) (tVar 1)))) tNext)
  (tSeq (sDPut (tVar 0) (tC (.str "turn")) (tOp (rAddQ K) (tDGet (tVar 0) (tC (.str "turn"))) (tC (.int 1))))
  (tSeq (tAsg (tDGet (tVar 0) (tC (.str "turn"))) (gName 4))
  (tSeq (tAsg (tOp (rI (fun _ j => 0 < j) fun i j => .int (i % j)) (tCB rIntQ (tCons (tOp (rAddQ K) (tDGet (tVar 0) (tC (.str "mixed"))) (tOp rMulQ (tVar 4) (tC (.int 104729)))) tNil)) (tC (.int 998244353))) (gName 5))
  (tSeq (tAsg (tOp (rI (fun _ j => 0 < j) fun i j => .int (i % j)) (tCB rIntQ (tCons (tOp (rAddQ K) (tOp rMulQ (tVar 5) (tVar 5)) (tOp rMulQ (tVar 4) (tC (.int 17)))) tNil)) (tC (.int 2147483647))) (gName 5))
  (tRet (tOp (rI (fun _ j => 0 < j) fun i j => .int (i % j)) (tCB rIntQ (tCons (tOp (rI CDivW fun i j => .int (i / j)) (tVar 5) (tC (.int 16))) tNil)) (tVar 1))))))))))))
section
variable {K : PySem.W.Frag} {H : Hp} {Q : VK} {d c : Addr}
theorem pickOk_mod {most i : Int} (h : 0 < most) : pickOk most (i % most) := ⟨Int.emod_nonneg i (by omega), .inl (Int.emod_lt_of_pos i h)⟩
theorem src_fin {l m t : Int} {cs : List Int} {env : Env} {σ : St} {H' : Hp} (r : R K (offS d c H) env σ H') (h : env[0]? = some (.cu (srcX d c l m t cs))) : (∀ a o, a ≠ d → a ≠ c → H a = some o → H' a = some o) ∧ Src d c H' := by
  refine ⟨offS_keep r.ex, ?_⟩
  obtain ⟨Z, fps, r⟩ := r
  exact ⟨l, m, t, cs, (r.rp.src h).2⟩
theorem src_finC {env : Env} {σ : St} {H' : Hp} (r : R K (offS d c H) env σ H') (h : env[0]? = some (.cu (srcC d c))) : (∀ a o, a ≠ d → a ≠ c → H a = some o → H' a = some o) ∧ Src d c H' := by
  refine ⟨offS_keep r.ex, ?_⟩
  obtain ⟨Z, fps, r⟩ := r
  obtain ⟨v, e, f⟩ := r.cu h
  exact f.2.2
theorem w_pick {most l m t : Int} {cs : List Int} (hb : most < 2 ^ 64) (q : ∀ r H', pickOk most r → (∀ a o, a ≠ d → a ≠ c → H a = some o → H' a = some o) → Src d c H' → Q (.int r) H') :
    WpS K (offS d c H) (rdPick K) [.cu (srcX d c l m t cs), .im (.int most), .no, .no, .no, .no] { nx := fun _ => False, rt := Q } := by
  unfold rdPick
  refine ws_seq (M := fun e => e = [.cu (srcX d c l m t cs), .im (.int most), .no, .no, .no, .no] ∧ 2 ≤ most) ?_ ?_
  · refine ws_if (b := decide (most < 2)) (eb_test (ev_lt ev_v ev_int)) (fun h => ?_) (fun h => ?_)
    · refine ws_ret ev_int fun v σ H' r hd => ?_
      rw [dq_int hd]
      obtain ⟨k, s⟩ := src_fin r rfl
      exact q 0 H' ⟨Int.le_refl 0, .inr rfl⟩ k s
    · exact ws_next ⟨rfl, by have := of_decide_eq_false h; omega⟩
  rintro e ⟨rfl, h2⟩
  refine ws_s (ws_srcCells (n := 0) rfl rfl) ?_
  refine ws_seq (M := fun e => ∃ l cs, e = [.cu (srcX d c l m t cs), .im (.int most), .cu (ptrC c), .no, .no, .no]) ?_ ?_
  · refine ws_whileM (I := fun k e => ∃ l cs, cs.length = k ∧ e = [.cu (srcX d c l m t cs), .im (.int most), .cu (ptrC c), .no, .no, .no]) ⟨_, l, cs, rfl, rfl⟩ ?_
    rintro k e ⟨l, cs, rfl, rfl⟩
    refine ⟨decide (l < 2) && decide (0 < (cs.length : Int)), eb_and (eb_test (ev_lt (ev_srcGet (n := 0) rfl rfl) ev_int)) (fun _ => eb_test (ev_gt (ev_srcLen (n := 0) rfl rfl) ev_int)), fun h => ?_, fun _ => ⟨l, cs, rfl⟩⟩
    obtain ⟨cs', x, rfl⟩ : ∃ cs' x, cs = cs' ++ [x] := by
      rcases List.eq_nil_or_concat cs with h' | ⟨L', x, h'⟩
      · rw [h'] at h; simp at h
      · exact ⟨L', x, by simpa using h'⟩
    exact ws_srcPop (n := 0) (n2 := 2) rfl rfl ⟨_, cs'.length, Fg.refl _, ⟨x, cs', rfl, rfl⟩, by simp⟩
  rintro e ⟨l, cs, rfl⟩
  refine ws_s (ws_asg (s := .im (.int l)) (es_lf (ev_srcGet (n := 0) rfl rfl) lf_int) rfl) ?_
  have hdiv : ∀ i : Int, CDivW i most := fun i => ⟨by omega, by
    have : most.natAbs < 2 ^ 64 := by omega
    exact Nat.lt_of_lt_of_le (PySem.Flt.log2_lt_of (by decide) this) (by decide)⟩
  refine ws_seq (M := fun e => e = [.cu (srcX d c l m t cs), .im (.int most), .cu (ptrC c), .im (.int l), .no, .no]) ?_ ?_
  · refine ws_if (b := decide (1 < l)) (eb_test (ev_gt ev_v ev_int)) (fun h => ?_) (fun h => ws_next rfl)
    refine ws_s (ws_srcPut (n := 0) (i := l / most) (l' := l / most) (m' := m) (t' := t) rfl (ev_fdiv ev_v ev_v (hdiv _)) rfl rfl) ?_
    refine ws_ret (ev_mod (ev_intI ev_v) ev_v (by omega)) fun v σ H' r hd => ?_
    rw [dq_int hd]
    obtain ⟨k, s⟩ := src_fin r rfl
    exact q _ H' (pickOk_mod (by omega)) k s
  rintro e rfl
  refine ws_s (ws_srcPut (n := 0) (i := t + 1) (l' := l) (m' := m) (t' := t + 1) rfl (ev_add (ev_srcGet (n := 0) rfl rfl) ev_int) rfl rfl) ?_
  refine ws_s (ws_asg (s := .im (.int (t + 1))) (es_lf (ev_srcGet (n := 0) rfl rfl) lf_int) rfl) ?_
  have small : ∀ {i : Int}, i.natAbs < 2 ^ 64 → Builtin.Int.intBits i ≤ 64 := fun h => PyProof.Rows.intBits_le h
  refine ws_s (ws_asg (s := .im (.int ((m + (t + 1) * 104729) % 998244353))) (es_lf (ev_mod (ev_intI (ev_add (ev_srcGet (n := 0) rfl rfl) (ev_mulS ev_v ev_int (IntMulOk.of_right (small (by decide)))))) ev_int (by decide)) lf_int) rfl) ?_
  have hs1 := Int.emod_nonneg (m + (t + 1) * 104729) (b := 998244353) (by decide)
  have hs2 := Int.emod_lt_of_pos (m + (t + 1) * 104729) (b := 998244353) (by decide)
  generalize (m + (t + 1) * 104729) % 998244353 = s at hs1 hs2 ⊢
  refine ws_s (ws_asg (s := .im (.int ((s * s + (t + 1) * 17) % 2147483647))) (es_lf (ev_mod (ev_intI (ev_add (ev_mulS ev_v ev_v (IntMulOk.of_right (small (by omega)))) (ev_mulS ev_v ev_int (IntMulOk.of_right (small (by decide)))))) ev_int (by decide)) lf_int) rfl) ?_
  refine ws_ret (ev_mod (ev_intI (ev_fdiv ev_v ev_int ⟨by decide, by decide⟩)) ev_v (by omega)) fun v σ H' r hd => ?_
  rw [dq_int hd]
  obtain ⟨k, s⟩ := src_fin r rfl
  exact q _ H' (pickOk_mod (by omega)) k s
end

/-! ### _law_open_cells -/
def rdOpen (K : PySem.W.Frag) : TS :=
  (tSeq (tAsg (tC (.int 11)) (gName 1))
  (tSeq (tFor (iSeq K (tVar 0)) (gName 2)
  (tAsg (tOp (rI (fun _ j => 0 < j) fun i j => .int (i % j)) (tCB rIntQ (tCons (tOp (rAddQ K) (tOp (rAddQ K) (tOp rMulQ (tVar 1) (tC (.int 69069))) (tOp rMulQ (tVar 2) (tC (.int 31)))) (tC (.int 5))) tNil)) (tC (.int 2147483629))) (gName 1)))
  (tSeq (tAsg (tLc (iSeq K (tVar 0)) (gName 2) tYes (tCB rAbsQ (tCons (tVar 2) tNil)) [2]) (gName 3))
  (tRet (tDisp (((tC (.str "cells")), (tRevL K (tVar 3))) :: (((tC (.str "left")), (tC (.int 1))) :: (((tC (.str "mixed")), (tVar 1)) :: (((tC (.str "turn")), (tC (.int 0))) :: [])))))))))
def spOpen (K : PySem.W.Frag) : Sp := fun vs H Q _ => ∃ (a : Addr) (ns : List Int), vs = [.ref a] ∧ SqL K H a (ns.map V.int) ∧ ns.length ≤ 10000000 ∧ ∀ d c H', H d = none → H c = none → Ex H H' → Src d c H' → Q (.ref d) H'
section
variable {K : PySem.W.Frag} {H : Hp} {Q : VK} {a : Addr} {ns : List Int}
theorem start_ptr {N : List Str} : R K H (.cu (ptrC a) :: List.replicate (N.length - 1) Sl.no) (start N [.ref a]) H := by
  refine ⟨H, fun _ => [], Evl.Ex.refl _, Evl.Ex.refl _, fun _ _ q => (nomatch q), fun _ _ q => (nomatch q), fun _ _ _ q => (nomatch q), ?_, fun i s e => ?_⟩
  · unfold L2.start; simp
  · unfold L2.start
    cases i with
    | zero => cases e; exact ⟨_, rfl, rfl, rfl⟩
    | succ i =>
      rw [List.getElem?_cons_succ, List.getElem?_replicate] at e
      split at e
      · cases e; exact rfl
      · cases e
/-- what the cells are made of -/
abbrev absL (ns : List Int) : List Int := ns.map fun z : Int => ((z.natAbs : Nat) : Int)
theorem w_open (hs : SqL K H a (ns.map V.int)) (hl : ns.length ≤ 10000000) (q : ∀ d c H', H d = none → H c = none → Ex H H' → Src d c H' → Q (.ref d) H') :
    WpS K H (rdOpen K) [.cu (ptrC a), .no, .no, .no] { nx := fun _ => False, rt := Q } := by
  unfold rdOpen
  have small : ∀ {i : Int}, i.natAbs < 2 ^ 64 → Builtin.Int.intBits i ≤ 64 := fun h => PyProof.Rows.intBits_le h
  refine ws_s (ws_asg (s := .im (.int 11)) (es_lf ev_int lf_int) rfl) ?_
  refine ws_seq (M := fun e => ∃ m : Int, e = [.cu (ptrC a), .im (.int m), .no, .no]) ?_ ?_
  · refine ws_forPB (P := fun ds => ds = iD ns) (fun B' Z fps σ H' x r Rr k => ?_) fun ds e => ⟨fun i e => ∃ m : Int, e = [.cu (ptrC a), .im (.int m), .no, .no], ⟨_, Fg.refl _, 11, rfl⟩, ?_, fun e h => h⟩
    · have h1 := Evl.ex_l (x.trans r.bz) hs
      exact ⟨.ref a, r.rp.ptr rfl, a, ns.map V.int, rfl, .inl ⟨Evl.ex_l r.zh h1, k _ rfl _ Z H' r.gro (itok_listS h1 (dqs_ints ns))⟩⟩
    · subst e
      rintro i d e hd ⟨m, rfl⟩
      obtain ⟨z, hz, rfl⟩ := map_at hd
      refine ⟨_, bd_name, ?_⟩
      exact ws_asg (es_lf (ev_mod (ev_intI (ev_add (ev_add (ev_mulS ev_v ev_int (IntMulOk.of_right (small (by decide)))) (ev_mulS ev_v ev_int (IntMulOk.of_right (small (by decide))))) ev_int)) ev_int (by decide)) lf_int) ⟨_, .same (.same (.drop (.same .nil))), _, rfl⟩
  rintro e ⟨m, rfl⟩
  refine ws_s (e := [.cu (ptrC a), .im (.int m), .no, .ow (iD (absL ns))]) ?_ ?_
  · refine fun B' x σ H' D r nx rt bk ct => ?_
    obtain ⟨Z, fps, r⟩ := r
    have h1 := Evl.ex_l (x.trans r.bz) hs
    refine lc_at (xs := ns) (enc := PyData.int) r.rp (fun Rr k => ?_) (fun _ => true) (fun z : Int => .int ((z.natAbs : Nat) : Int)) hl (fun z hz => ⟨_, bd_name, by simp, eb_yes, fun _ => ⟨ev_abs ev_v, lf_int⟩⟩) _ fun p ys H2 hp x2 h2 hd => ?_
    · exact ⟨.ref a, r.rp.ptr rfl, a, ns.map V.int, rfl, .inl ⟨Evl.ex_l r.zh h1, k _ H' (Evl.Ex.refl _) (itok_listS (Evl.ex_l r.zh h1) (dqs_ints ns))⟩⟩
    · have e : (ns.filter fun _ => true).map (fun z : Int => PyData.int ((z.natAbs : Nat) : Int)) = iD (absL ns) := by
        rw [List.filter_eq_self.mpr fun _ _ => rfl]; simp [absL]
      rw [e] at hd
      obtain ⟨Z', g, hz, hk⟩ := r.lfs_gro x2 (lfs_ints _) hd
      refine nx _ _ _ rfl ((r.mono g).putS (i := 3) (s := .ow (iD (absL ns))) (fp := [p]) ⟨p, ys, rfl, rfl, h2, hz⟩ (fun c hc => ?_) fun j c hc hj => ?_)
      · rw [List.mem_singleton.mp hc, hk p ys h2]; exact r.zn hp
      · rw [List.mem_singleton.mp hc] at hj
        obtain ⟨o, eo, _⟩ := r.mu j p hj
        rw [hp] at eo; cases eo
  · refine fun B' x σ H' D r nx rt bk ct => ?_
    obtain ⟨Z, fps, r⟩ := r
    obtain ⟨l, xs, e1, e2, e3, e4⟩ := r.own (n := 3) rfl
    obtain ⟨v, hv, hd⟩ := r.view (i := 1) (d := .int m) rfl rfl
    rw [dq_int hd] at hv
    have exs := dqs_ints_inv e4
    have x' : Ex H H' := x.trans (r.bz.trans r.zh)
    refine fun p hp => ?_
    have lp : l ≠ p := ne_of_none e3 hp
    refine ⟨_, e1, l, xs, rfl, .inl (.inl (by rw [upd_ne lp]; exact e3)), fun c hc => ?_⟩
    have hcp : c ≠ p := fun z => by rw [z, upd_same] at hc; cases hc
    have hc' : H' c = none := by rwa [upd_ne hcp] at hc
    refine ⟨_, hv, ?_⟩
    refine ⟨by rw [upd_ne (Ne.symm hcp), upd_same], srcK c 1 m 0, rfl, by show 4 ≤ 15; decide, ?_⟩
    refine rt _ _ (q p c _ (Evl.fresh_back x' hp) (Evl.fresh_back x' hc') ?_ ?_)
    · refine x'.trans fun b o e => ?_
      have hb : b ≠ p := ne_of_none e hp
      rw [upd_ne hb, upd_ne (ne_of_none e hc'), upd_ne hb]
      exact e
    · refine ⟨1, m, 0, (absL ns).reverse, Ne.symm hcp, by rw [upd_same]; rfl, ?_⟩
      rw [upd_ne hcp, upd_same, exs, List.map_reverse]
end
end VL
/-! Vl12: dicts whose keys are nested tuples. -/
namespace VL
open PySem PySem.Spec L2

/-- an entry: the key, where its tuple stands, where its value stands -/
abbrev NE := NestedKey × Addr × Addr
def neH (x : NE) : NestedKey × Addr × Value := (x.1, x.2.1, .ref x.2.2)
/-- a dict with these entries -/
def dnO (w : World) (a : Addr) (es : List NE) : HO := .ext fun h => (a == sysModules) = false ∧ es.length ≤ sizeLine ∧ ∃ o ds ep, h.get? a = some o ∧ o.ExactDict ∧ o.data = .dict ds ep ∧ ds.toList = (es.map neH).map (fun x => ⟨x.1.hash w, .ref x.2.1, x.2.2⟩) ∧ (es.map (·.1)).Nodup
def valN (es : List NE) (k : NestedKey) : Option Addr := (es.find? fun x => decide (x.1 = k)).map (·.2.2)
def putN (es : List NE) (k : NestedKey) (b l : Addr) : List NE := if (valN es k).isSome then es.map (fun x => if x.1 = k then (x.1, x.2.1, l) else x) else es ++ [(k, b, l)]
theorem putN_len (es : List NE) (k : NestedKey) (b l : Addr) : (putN es k b l).length ≤ es.length + 1 := by
  unfold putN; split <;> simp
theorem putN_mem {es : List NE} {k : NestedKey} {b l : Addr} {x : NE} (h : x ∈ putN es k b l) : x ∈ es ∨ (x.1 = k ∧ x.2.2 = l ∧ (x.2.1 = b ∨ ∃ y ∈ es, y.1 = k ∧ y.2.1 = x.2.1)) := by
  unfold putN at h
  split at h
  · obtain ⟨y, hy, rfl⟩ := List.mem_map.mp h
    by_cases q : y.1 = k
    · rw [if_pos q]; exact .inr ⟨q, rfl, .inr ⟨y, hy, q, rfl⟩⟩
    · rw [if_neg q]; exact .inl hy
  · rcases List.mem_append.mp h with h | h
    · exact .inl h
    · rw [List.mem_singleton.mp h]; exact .inr ⟨rfl, rfl, .inl rfl⟩
theorem atKey_ne (es : List NE) (k : NestedKey) : (atKey (es.map neH) k).map (·.2) = (valN es k).map Value.ref := by
  unfold atKey valN
  rw [List.find?_map]
  have e : ((fun x : NestedKey × Addr × Value => decide (x.1 = k)) ∘ neH) = fun x : NE => decide (x.1 = k) := rfl
  rw [e]
  cases es.find? fun x => decide (x.1 = k) <;> rfl
theorem atKey_some (es : List NE) (k : NestedKey) : (atKey (es.map neH) k).isSome = (valN es k).isSome := by
  have := congrArg Option.isSome (atKey_ne es k)
  simpa using this
theorem stored_ne (es : List NE) (k : NestedKey) (b l : Addr) : storedH (es.map neH) k b (.ref l) = (putN es k b l).map neH := by
  unfold storedH putN
  rw [atKey_some]
  split
  · rw [List.map_map, List.map_map]
    apply List.map_congr_left
    intro x _
    simp only [Function.comp, putAt, neH]
    by_cases q : x.1 = k <;> simp [q]
  · simp [neH]
/-- the key's tuple shows the key -/
def KeyAt (K : PySem.W.Frag) (H : Hp) (k : NestedKey) (b : Addr) : Prop := k.depth ≤ 8 ∧ Dq K H (.ref b) k.data
def DN (K : PySem.W.Frag) (w : World) (H : Hp) (a : Addr) (es : List NE) : Prop := H a = some (dnO w a es) ∧ ∀ x ∈ es, KeyAt K H x.1 x.2.1
section
variable {X : Cx} {pins : List (Addr × Obj)} {σ : St} {H : Hp} {s : Shared}
mutual
theorem nested_of (I : Inv X pins σ H s) : ∀ (k : NestedKey) (v : V) (u : Value), Dq X.K H v k.data → RelV v u → NestedIs s.heap k u
  | .none, v, u, h, r => by
    have h' : Dq X.K H v .none := by simpa [NestedKey.data] using h
    rw [dq_none h'] at r
    obtain rfl : u = Value.none := r
    exact .none
  | .num i, v, u, h, r => by
    have h' : Dq X.K H v (.int i) := by simpa [NestedKey.data] using h
    rw [dq_int h'] at r
    obtain ⟨t, rfl⟩ := r
    exact .int _ _
  | .text x, v, u, h, r => by
    have h' : Dq X.K H v (.str x) := by simpa [NestedKey.data] using h
    rw [dq_str h'] at r
    obtain ⟨t, rfl⟩ := r
    exact .text _ _
  | .tup ks, v, u, h, r => by
    obtain ⟨a, xs, rfl, hs, hd⟩ := dq_tuple (by simpa [NestedKey.data] using h)
    obtain rfl : u = Value.ref a := r
    obtain ⟨its, rv, ⟨o, ho, hc, n, hdat⟩, _⟩ := I.tuple hs
    exact .tup ho hc hdat (by simpa using nested_all I ks xs its hd rv)
theorem nested_all (I : Inv X pins σ H s) : ∀ (ks : List NestedKey) (vs : List V) (us : List Value), Dqs X.K H vs (NestedKey.datas ks) → Vals vs us → NestedAll s.heap ks us
  | [], vs, us, h, r => by
    rw [NestedKey.datas] at h
    cases h
    cases r
    exact .nil
  | k :: ks, vs, us, h, r => by
    rw [NestedKey.datas] at h
    cases h with
    | cons h1 h2 =>
      cases r with
      | cons r1 r2 => exact .cons (nested_of I k _ _ h1 r1) (nested_all I ks _ _ h2 r2)
end
theorem key_is (I : Inv X pins σ H s) {k : NestedKey} {b : Addr} (h : KeyAt X.K H k b) : (nestedKind X.prog X.w).is s.heap k b := ⟨nested_of I k _ _ h.2 rfl, h.1⟩
theorem dn_of (I : Inv X pins σ H s) {a : Addr} {es : List NE} (h : DN X.K X.w H a es) : (a == sysModules) = false ∧ es.length ≤ sizeLine ∧ s.heap.DictOfH (nestedKind X.prog X.w) a (es.map neH) := by
  obtain ⟨⟨h1, h2, o, ds, ep, ho, hx, hd, hl, hn⟩, _, _⟩ := I.hok _ _ h.1
  refine ⟨h1, h2, o, ds, ep, ho, hx, hd, hl, fun x hx' => ?_, by rw [List.map_map]; exact hn⟩
  obtain ⟨y, hy, rfl⟩ := List.mem_map.mp hx'
  exact key_is I (h.2 y hy)
theorem dnO_ok {P : Program} {w : World} {H : Hp} {h : Heap} {a : Addr} {es : List NE} (hd : (a == sysModules) = false) (hl : es.length ≤ sizeLine) (hm : h.DictOfH (nestedKind P w) a (es.map neH)) : ObjOk P w H h a (dnO w a es) := by
  obtain ⟨o, ds, ep, ho, hx, hdat, hls, _, hn⟩ := hm
  have hn' : (es.map (·.1)).Nodup := by rw [List.map_map] at hn; exact hn
  refine ⟨⟨hd, hl, o, ds, ep, ho, hx, hdat, hls, hn'⟩, ⟨o, ho⟩, fun h1 h2 ⟨q1, q2, o', ds', ep', e1, e2, e3, e4, e5⟩ k => ⟨q1, q2, o', ds', ep', k _ e1, e2, e3, e4, e5⟩⟩
def tNNew (w : World) : TE := fun _ H Q => ∀ p, H p = none → Q (.ref p) (upd H p (dnO w p []))
def tNGet (K : PySem.W.Frag) (w : World) (td ty : TE) : TE := fun σ H Q => td σ H fun x H1 => ty σ H1 fun y H2 => ∃ a es k b l, x = .ref a ∧ DN K w H2 a es ∧ y = .ref b ∧ KeyAt K H2 k b ∧ valN es k = some l ∧ Q (.ref l) H2
def tNNotIn (K : PySem.W.Frag) (w : World) (ty td : TE) : TE := fun σ H Q => ty σ H fun y H1 => td σ H1 fun x H2 => ∃ a es k b, x = .ref a ∧ DN K w H2 a es ∧ y = .ref b ∧ KeyAt K H2 k b ∧ Q (.bl (!(valN es k).isSome)) H2
def sNPut (K : PySem.W.Frag) (w : World) (td ty tv : TE) : TS := fun D σ H => tv σ H fun v H1 => td σ H1 fun x H2 => ty σ H2 fun y H3 => ∃ a es k b l, v = .ref l ∧ x = .ref a ∧ DN K w H3 a es ∧ y = .ref b ∧ KeyAt K H3 k b ∧ es.length < sizeLine ∧ D.nx σ (upd H3 a (dnO w a (putN es k b l)))
variable {pos pos' : Pos} {o i value : Expr} {td ty tv : TE}
theorem pe_nnew : PE X (.Dict [] [] pos) (tNNew X.w) := ⟨fun pins s σ H Q I h =>
  wpAny_Dict_empty ⟨.ref s.heap.objs.size, _, I.laid (a := s.heap.objs.size) (o := dnO X.w s.heap.objs.size []) (t' := s.toks) (fun _ _ q => Heap.get?_push_of_some _ q) (Nat.le_refl _) (dnO_ok (P := X.prog) (beq_eq_false_iff_ne.mpr (Ne.symm (Nat.ne_of_lt I.big))) (Nat.zero_le _) (Heap.DictOfH.new _)), rfl, h _ (I.hok.fresh (Nat.le_refl _))⟩⟩
theorem pe_nget (hu : X.A.units + 65 < cLine) (ho : PE X o td) (hi : PE X i ty) (hs : NoSl i) : PE X (.Subscript o i pos) (tNGet X.K X.w td ty) := by
  refine ⟨fun pins s σ H Q I h => ?_⟩
  refine subD_of PySem.F.slot_dict_getitem.lookup hs (thn (ho.run pins s σ H _ I h) fun u s1 ⟨x, H1, I1, rx, q1⟩ => thn (hi.run pins s1 σ H1 _ I1 q1) fun iv s2 ⟨y, H2, I2, ry, a, es, k, b, l, ex, dn, ey, hk, hv, q2⟩ => ?_)
  subst ex ey
  obtain rfl : u = Value.ref a := rx
  obtain rfl : iv = Value.ref b := ry
  obtain ⟨hd, hl, hm⟩ := dn_of I2 dn
  refine ⟨hm.typeIs, ?_⟩
  have e := atKey_ne es k
  rw [hv] at e
  obtain ⟨p, hp, e2⟩ := Option.map_eq_some_iff.mp e
  refine wpAny_getItem_heap (by show X.A.in1.units + 8 < cLine; have : X.A.in1.units = X.A.units + 1 := rfl; omega) (key_is I2 hk) hm hp ?_
  exact ⟨.ref l, H2, I2.tok _, e2, q2⟩
theorem pc_nnotin (hu : X.A.units + 65 < cLine) (hi : PE X i ty) (ho : PE X o td) : PC X .NotIn i o (tNNotIn X.K X.w ty td) := by
  refine ⟨fun pins s σ H Q I h => ?_⟩
  refine thn (hi.run pins s σ H _ I h) fun iv s1 ⟨y, H1, I1, ry, q1⟩ => thn (ho.run pins s1 σ H1 _ I1 q1) fun u s2 ⟨x, H2, I2, rx, a, es, k, b, ex, dn, ey, hk, q2⟩ => ?_
  subst ex ey
  obtain rfl : u = Value.ref a := rx
  obtain rfl : iv = Value.ref b := ry
  obtain ⟨hd, hl, hm⟩ := dn_of I2 dn
  refine notIn_keyed (by show X.A.in1.units + 8 < cLine; have : X.A.in1.units = X.A.units + 1 := rfl; omega) (key_is I2 hk) hd ⟨_, hm, rfl⟩ ?_
  exact ⟨.bl (!(valN es k).isSome), H2, I2.tok _, by rw [valueAt_pairsH, Option.isSome_map, atKey_some]; rfl, q2⟩
theorem ps_nput (hu : X.A.units + 65 < cLine) (ho : PE X o td) (hi : PE X i ty) (hv : PE X value tv) (hs : swapsWith value (some (.Subscript o i pos')) pos.line X.env = pure false) :
    PS X (.Assign [.Subscript o i pos'] value pos) (sNPut X.K X.w td ty tv) := by
  refine ⟨fun pins s σ H D I h => ?_⟩
  refine wpAny_Assign_Subscript (thn (hv.run pins s σ H _ I h) fun r s1 ⟨v, H1, I1, rv, q1⟩ => thn (ho.run pins s1 σ H1 _ I1 q1) fun u s2 ⟨x, H2, I2, rx, q2⟩ => thn (hi.run pins s2 σ H2 _ I2 q2) fun iv s3 ⟨y, H3, I3, ry, a, es, k, b, l, ev, ex, dn, ey, hk, hz, q3⟩ => ?_) hs
  subst ex ey ev
  obtain rfl : u = Value.ref a := rx
  obtain rfl : iv = Value.ref b := ry
  obtain rfl : r = Value.ref l := rv
  obtain ⟨hd, hl, hm⟩ := dn_of I3 dn
  refine wpAny_setItem_heap (hsz := by rw [List.length_map]; exact hl) (by show X.A.in1.units + 8 < cLine; have : X.A.in1.units = X.A.units + 1 := rfl; omega) (key_is I3 hk) hm fun h' dd' hs' => ⟨σ, upd H3 a (dnO X.w a (putN es k b l)), ?_, q3⟩
  rw [stored_ne] at dd'
  have he : ∃ q, h'.get? a = some q := let ⟨q, _, _, hq, _⟩ := dd'; ⟨q, hq⟩
  exact d_write I3 (by rw [dn.1]; exact True.intro) hs' he (dnO_ok (P := X.prog) hd (by have := putN_len es k b l; omega) dd')
end
end VL
/-! K72M: the plain mathematics of pairings: polynomials as lists, how many pairings a list of ties has. -/
namespace K72
abbrev Tie := Nat × Nat

/-! ### polynomials as lists -/
def ev (x : Int) : List Int → Int
  | [] => 0
  | c :: cs => c + x * ev x cs
def pad (l : List Int) (n : Nat) : List Int := l ++ List.replicate (n - l.length) 0
/-- a and b so often, added -/
def pAdd (a b : List Int) (t : Int) : List Int := ((pad a (max a.length b.length)).zip (pad b (max a.length b.length))).map fun p => p.1 + t * p.2
theorem ev_zeros (x : Int) : ∀ n, ev x (List.replicate n 0) = 0
  | 0 => rfl
  | n + 1 => by simp [List.replicate_succ, ev, ev_zeros x n]
theorem ev_append (x : Int) : ∀ a b : List Int, ev x (a ++ b) = ev x a + x ^ a.length * ev x b
  | [], b => by simp [ev]
  | c :: a, b => by
    simp only [List.cons_append, ev, ev_append x a b, List.length_cons]
    grind
theorem ev_pad (x : Int) (l : List Int) (n : Nat) : ev x (pad l n) = ev x l := by
  unfold pad
  rw [ev_append, ev_zeros]
  simp
theorem pad_len (l : List Int) (n : Nat) (h : l.length ≤ n) : (pad l n).length = n := by
  unfold pad
  simp; omega
theorem ev_zip (x t : Int) : ∀ a b : List Int, a.length = b.length → ev x ((a.zip b).map fun p => p.1 + t * p.2) = ev x a + t * ev x b
  | [], [], _ => by simp [ev]
  | [], _ :: _, h => by simp at h
  | _ :: _, [], h => by simp at h
  | c :: a, d :: b, h => by
    simp only [List.zip_cons_cons, List.map_cons, ev, ev_zip x t a b (by simpa using h)]
    grind
theorem ev_pAdd (x t : Int) (a b : List Int) : ev x (pAdd a b t) = ev x a + t * ev x b := by
  unfold pAdd
  rw [ev_zip x t _ _ (by rw [pad_len _ _ (by omega), pad_len _ _ (by omega)]), ev_pad, ev_pad]
theorem pAdd_len (a b : List Int) (t : Int) : (pAdd a b t).length = max a.length b.length := by
  unfold pAdd
  rw [List.length_map, List.length_zip, pad_len _ _ (by omega), pad_len _ _ (by omega)]
  omega
/-- what agrees at all great numbers agrees number by number -/
theorem co_eq : ∀ (l l' : List Int) (N : Int), (∀ x, N ≤ x → ev x l = ev x l') → ∀ k, l.getD k 0 = l'.getD k 0
  | [], [], _, _, _ => rfl
  | [], c :: cs, N, h, k => by
    have h1 : ∀ x, N ≤ x → c + x * ev x cs = 0 := fun x hx => by have := h x hx; simp [ev] at this; omega
    have hc : c = 0 := by
      have q := h1 (max N (c.natAbs + 1)) (by omega)
      have e : c = max N (c.natAbs + 1) * -(ev (max N (c.natAbs + 1)) cs) := by grind
      generalize hz : -(ev (max N (c.natAbs + 1)) cs) = z at e
      by_cases z0 : z = 0
      · rw [z0] at e; omega
      · exfalso
        have a1 : c.natAbs = (max N (c.natAbs + 1)).natAbs * z.natAbs := by rw [← Int.natAbs_mul, ← e]
        have a2 : 1 ≤ z.natAbs := by omega
        have a3 : (max N (c.natAbs + 1)).natAbs * 1 ≤ (max N (c.natAbs + 1)).natAbs * z.natAbs := Nat.mul_le_mul_left _ a2
        omega
    have h2 : ∀ x, max N 1 ≤ x → ev x [] = ev x cs := fun x hx => by
      have := h1 x (by omega)
      rw [hc] at this
      have : x * ev x cs = 0 := by omega
      rcases Int.mul_eq_zero.mp this with e | e
      · omega
      · simp [ev, e]
    cases k with
    | zero => simp [hc]
    | succ k =>
      have := co_eq [] cs _ h2 k
      simpa using this
  | c :: cs, [], N, h, k => by
    have h1 : ∀ x, N ≤ x → c + x * ev x cs = 0 := fun x hx => by have := h x hx; simp [ev] at this; omega
    have hc : c = 0 := by
      have q := h1 (max N (c.natAbs + 1)) (by omega)
      have e : c = max N (c.natAbs + 1) * -(ev (max N (c.natAbs + 1)) cs) := by grind
      generalize hz : -(ev (max N (c.natAbs + 1)) cs) = z at e
      by_cases z0 : z = 0
      · rw [z0] at e; omega
      · exfalso
        have a1 : c.natAbs = (max N (c.natAbs + 1)).natAbs * z.natAbs := by rw [← Int.natAbs_mul, ← e]
        have a2 : 1 ≤ z.natAbs := by omega
        have a3 : (max N (c.natAbs + 1)).natAbs * 1 ≤ (max N (c.natAbs + 1)).natAbs * z.natAbs := Nat.mul_le_mul_left _ a2
        omega
    have h2 : ∀ x, max N 1 ≤ x → ev x cs = ev x [] := fun x hx => by
      have := h1 x (by omega)
      rw [hc] at this
      have : x * ev x cs = 0 := by omega
      rcases Int.mul_eq_zero.mp this with e | e
      · omega
      · simp [ev, e]
    cases k with
    | zero => simp [hc]
    | succ k =>
      have := co_eq cs [] _ h2 k
      simpa using this
  | c :: cs, d :: ds, N, h, k => by
    have h1 : ∀ x, N ≤ x → (c - d) + x * (ev x cs - ev x ds) = 0 := fun x hx => by have := h x hx; simp only [ev] at this; grind
    have hc : c - d = 0 := by
      have q := h1 (max N ((c - d).natAbs + 1)) (by omega)
      generalize hy : max N ((c - d).natAbs + 1 : Int) = y at q
      have e : c - d = y * -(ev y cs - ev y ds) := by grind
      generalize hz : -(ev y cs - ev y ds) = z at e
      by_cases z0 : z = 0
      · rw [z0] at e; omega
      · exfalso
        have a1 : (c - d).natAbs = y.natAbs * z.natAbs := by rw [← Int.natAbs_mul, ← e]
        have a2 : 1 ≤ z.natAbs := by omega
        have a3 : y.natAbs * 1 ≤ y.natAbs * z.natAbs := Nat.mul_le_mul_left _ a2
        omega
    have h2 : ∀ x, max N 1 ≤ x → ev x cs = ev x ds := fun x hx => by
      have := h1 x (by omega)
      rw [hc] at this
      have : x * (ev x cs - ev x ds) = 0 := by omega
      rcases Int.mul_eq_zero.mp this with e | e
      · omega
      · omega
    cases k with
    | zero => simp; omega
    | succ k =>
      have := co_eq cs ds _ h2 k
      simpa using this
/-- the last number isn't 0 -/
def Tip (l : List Int) : Prop := ∃ c, l.getLast? = some c ∧ c ≠ 0
theorem tip_get {l : List Int} (h : Tip l) : 0 < l.length ∧ l.getD (l.length - 1) 0 ≠ 0 := by
  obtain ⟨c, h1, h2⟩ := h
  cases l with
  | nil => cases h1
  | cons a l =>
    rw [List.getLast?_eq_getElem?] at h1
    refine ⟨by simp, ?_⟩
    rw [List.getD_eq_getElem?_getD, h1]
    exact h2
theorem tip_eq {l l' : List Int} (h : Tip l) (h' : Tip l') (e : ∀ k, l.getD k 0 = l'.getD k 0) : l = l' := by
  obtain ⟨p, q⟩ := tip_get h
  obtain ⟨p', q'⟩ := tip_get h'
  have hl : l.length = l'.length := by
    by_cases c : l.length < l'.length
    · exfalso
      apply q'
      rw [← e, List.getD_eq_getElem?_getD, List.getElem?_eq_none (by omega)]
      rfl
    · by_cases c' : l'.length < l.length
      · exfalso
        apply q
        rw [e, List.getD_eq_getElem?_getD, List.getElem?_eq_none (by omega)]
        rfl
      · omega
  apply List.ext_getElem hl
  intro i h1 h2
  have := e i
  rw [List.getD_eq_getElem?_getD, List.getD_eq_getElem?_getD, List.getElem?_eq_getElem h1, List.getElem?_eq_getElem h2] at this
  exact this
theorem poly_eq {l l' : List Int} (h : Tip l) (h' : Tip l') (e : ∀ x, ev x l = ev x l') : l = l' := tip_eq h h' (co_eq l l' 0 fun x _ => e x)
/-- noughts behind are taken away, but for one number -/
def trim : List Int → List Int
  | [] => []
  | c :: cs => match trim cs with
    | [] => [c]
    | [d] => if d = 0 then [c] else [c, d]
    | ds => c :: ds
/-- numbers from 0 on, the last one above 0 -/
def Can (l : List Int) : Prop := (∀ c ∈ l, 0 ≤ c) ∧ ∃ c, l.getLast? = some c ∧ 0 < c
theorem Can.tip {l : List Int} (h : Can l) : Tip l := by
  obtain ⟨_, c, h1, h2⟩ := h
  exact ⟨c, h1, by omega⟩
theorem Can.ne {l : List Int} (h : Can l) : l ≠ [] := by
  obtain ⟨_, c, h1, _⟩ := h
  intro e; rw [e] at h1; cases h1
theorem can_ext {l : List Int} (h0 : ∀ k, 0 ≤ l.getD k 0) (h1 : 0 < l.length) (h2 : 0 < l.getD (l.length - 1) 0) : Can l := by
  refine ⟨fun c hc => ?_, l[l.length - 1], ?_, ?_⟩
  · obtain ⟨i, hi, rfl⟩ := List.getElem_of_mem hc
    have := h0 i
    rwa [List.getD_eq_getElem?_getD, List.getElem?_eq_getElem hi] at this
  · rw [List.getLast?_eq_getElem?, List.getElem?_eq_getElem (by omega)]
  · rwa [List.getD_eq_getElem?_getD, List.getElem?_eq_getElem (by omega)] at h2
theorem can_get {l : List Int} (h : Can l) : (∀ k, 0 ≤ l.getD k 0) ∧ 0 < l.length ∧ 0 < l.getD (l.length - 1) 0 := by
  obtain ⟨h0, c, h1, h2⟩ := h
  refine ⟨fun k => ?_, ?_, ?_⟩
  · rw [List.getD_eq_getElem?_getD]
    cases q : l[k]? with
    | none => simp
    | some d => simpa using h0 d (List.mem_of_getElem? q)
  · cases l with
    | nil => cases h1
    | cons => simp
  · rw [List.getD_eq_getElem?_getD, ← List.getLast?_eq_getElem?, h1]
    exact h2
theorem pad_get (l : List Int) (n k : Nat) : (pad l n).getD k 0 = l.getD k 0 := by
  unfold pad
  rw [List.getD_eq_getElem?_getD, List.getD_eq_getElem?_getD]
  by_cases h : k < l.length
  · rw [List.getElem?_append_left h]
  · rw [List.getElem?_append_right (by omega), List.getElem?_replicate, List.getElem?_eq_none (by omega : l.length ≤ k)]
    split <;> rfl
theorem pAdd_get (a b : List Int) (t : Int) (k : Nat) : (pAdd a b t).getD k 0 = a.getD k 0 + t * b.getD k 0 := by
  rw [← pad_get a (max a.length b.length), ← pad_get b (max a.length b.length)]
  unfold pAdd
  have h1 := pad_len a (max a.length b.length) (by omega)
  have h2 := pad_len b (max a.length b.length) (by omega)
  generalize pad a (max a.length b.length) = A at h1 ⊢
  generalize pad b (max a.length b.length) = B at h2 ⊢
  rw [List.getD_eq_getElem?_getD, List.getD_eq_getElem?_getD, List.getD_eq_getElem?_getD, List.getElem?_map]
  by_cases h : k < max a.length b.length
  · have e1 : A[k]? = some (A[k]'(by omega)) := List.getElem?_eq_getElem _
    have e2 : B[k]? = some (B[k]'(by omega)) := List.getElem?_eq_getElem _
    have e3 : (A.zip B)[k]? = some (A[k]'(by omega), B[k]'(by omega)) := by rw [List.getElem?_zip_eq_some]; exact ⟨e1, e2⟩
    rw [e1, e2, e3]
    simp
  · have e1 : A[k]? = none := List.getElem?_eq_none (by omega)
    have e2 : B[k]? = none := List.getElem?_eq_none (by omega)
    have e3 : (A.zip B)[k]? = none := List.getElem?_eq_none (by rw [List.length_zip]; omega)
    rw [e1, e2, e3]
    simp
theorem can_add {a b : List Int} {t : Int} (ha : Can a) (hb : Can b) (ht : 0 < t) : Can (pAdd a b t) := by
  obtain ⟨a0, a1, a2⟩ := can_get ha
  obtain ⟨b0, b1, b2⟩ := can_get hb
  have nn : ∀ k, 0 ≤ t * b.getD k 0 := fun k => Int.mul_nonneg (by omega) (b0 k)
  refine can_ext (fun k => ?_) (by rw [pAdd_len]; omega) ?_
  · rw [pAdd_get]; have := a0 k; have := nn k; omega
  · rw [pAdd_get, pAdd_len]
    by_cases h : a.length < b.length
    · rw [Nat.max_eq_right (by omega)]
      have h1 := a0 (b.length - 1)
      have h2 : 0 < t * b.getD (b.length - 1) 0 := Int.mul_pos ht b2
      omega
    · rw [Nat.max_eq_left (by omega)]
      have h1 := nn (a.length - 1)
      omega
theorem can_one : Can [1] := ⟨by simp, 1, rfl, by decide⟩
theorem can_shift {a : List Int} (h : Can a) : Can (0 :: a) := by
  obtain ⟨h0, c, h1, h2⟩ := h
  refine ⟨fun d hd => ?_, c, ?_, h2⟩
  · rcases List.mem_cons.mp hd with rfl | hd
    · omega
    · exact h0 d hd
  · cases a with
    | nil => cases h1
    | cons x a => rw [List.getLast?_cons_cons]; exact h1

/-! ### the product -/
def addAt (f : List Int) (k : Nat) (v : Int) : List Int := f.set k (f.getD k 0 + v)
def inn (x : Int) (b : List Int) (i : Nat) : Nat → List Int → List Int
  | 0, f => f
  | j + 1, f => addAt (inn x b i j f) (i + j) (x * b.getD j 0)
def out (a b : List Int) : Nat → List Int
  | 0 => List.replicate (a.length + b.length - 1) 0
  | i + 1 => inn (a.getD i 0) b i b.length (out a b i)
def pMul (a b : List Int) : List Int := out a b a.length
theorem inn_len (x : Int) (b : List Int) (i : Nat) : ∀ j f, (inn x b i j f).length = f.length
  | 0, _ => rfl
  | j + 1, f => by simp [inn, addAt, inn_len x b i j f]
theorem out_len (a b : List Int) : ∀ i, (out a b i).length = a.length + b.length - 1
  | 0 => by simp [out]
  | i + 1 => by simp [out, inn_len, out_len a b i]
theorem pMul_len (a b : List Int) : (pMul a b).length = a.length + b.length - 1 := out_len a b _
theorem ev_addAt (x : Int) : ∀ (f : List Int) (k : Nat) (v : Int), k < f.length → ev x (addAt f k v) = ev x f + x ^ k * v
  | [], k, v, h => by simp at h
  | c :: f, 0, v, h => by simp [addAt, ev]; omega
  | c :: f, k + 1, v, h => by
    have ih := ev_addAt x f k v (by simpa using h)
    simp only [addAt, List.set_cons_succ, ev, List.getD_cons_succ] at ih ⊢
    rw [ih]
    grind
theorem take_succ_get (b : List Int) (j : Nat) (h : j < b.length) : b.take (j + 1) = b.take j ++ [b.getD j 0] := by
  rw [List.take_add_one, List.getElem?_eq_getElem h, List.getD_eq_getElem?_getD, List.getElem?_eq_getElem h]
  rfl
theorem ev_inn (x y : Int) (b : List Int) (i : Nat) : ∀ j f, j ≤ b.length → i + j ≤ f.length → ev x (inn y b i j f) = ev x f + x ^ i * (y * ev x (b.take j))
  | 0, f, _, _ => by simp [inn, ev]
  | j + 1, f, h1, h2 => by
    have ih := ev_inn x y b i j f (by omega) (by omega)
    show ev x (addAt (inn y b i j f) (i + j) (y * b.getD j 0)) = _
    rw [ev_addAt x _ _ _ (by rw [inn_len]; omega), ih, take_succ_get b j (by omega), ev_append]
    simp only [ev, List.length_take, Nat.min_eq_left (by omega : j ≤ b.length), Int.pow_add]
    grind
theorem ev_out (x : Int) (a b : List Int) : ∀ i, i ≤ a.length → ev x (out a b i) = ev x (a.take i) * ev x b
  | 0, _ => by simp [out, ev_zeros, ev]
  | i + 1, h => by
    have ih := ev_out x a b i (by omega)
    show ev x (inn (a.getD i 0) b i b.length (out a b i)) = _
    rw [ev_inn x _ b i b.length _ (Nat.le_refl _) (by rw [out_len]; omega), ih, take_succ_get a i (by omega), ev_append, List.take_length]
    simp only [ev, List.length_take, Nat.min_eq_left (by omega : i ≤ a.length)]
    grind
theorem ev_pMul (x : Int) (a b : List Int) : ev x (pMul a b) = ev x a * ev x b := by
  rw [pMul, ev_out x a b _ (Nat.le_refl _), List.take_length]
theorem addAt_get (f : List Int) (k : Nat) (v : Int) (i : Nat) : (addAt f k v).getD i 0 = f.getD i 0 + (if i = k ∧ k < f.length then v else 0) := by
  unfold addAt
  rw [List.getD_eq_getElem?_getD, List.getD_eq_getElem?_getD, List.getElem?_set]
  by_cases h : k = i
  · subst h
    by_cases h2 : k < f.length
    · simp [h2]
    · simp [h2]
  · have h' : ¬ (i = k ∧ k < f.length) := fun q => h q.1.symm
    simp [h, h']
theorem inn_nn {y : Int} {b : List Int} {i : Nat} (hy : 0 ≤ y) (hb : ∀ k, 0 ≤ b.getD k 0) : ∀ j f, (∀ k, 0 ≤ f.getD k 0) → ∀ k, f.getD k 0 ≤ (inn y b i j f).getD k 0
  | 0, f, hf, k => Int.le_refl _
  | j + 1, f, hf, k => by
    have ih := inn_nn (i := i) hy hb j f hf k
    show _ ≤ (addAt (inn y b i j f) (i + j) (y * b.getD j 0)).getD k 0
    rw [addAt_get]
    have := Int.mul_nonneg hy (hb j)
    split <;> omega
theorem out_nn {a b : List Int} (ha : ∀ k, 0 ≤ a.getD k 0) (hb : ∀ k, 0 ≤ b.getD k 0) : ∀ i k, 0 ≤ (out a b i).getD k 0
  | 0, k => by
    show 0 ≤ (List.replicate (a.length + b.length - 1) (0 : Int)).getD k 0
    rw [List.getD_eq_getElem?_getD, List.getElem?_replicate]
    split <;> simp
  | i + 1, k => by
    have ih := out_nn ha hb i
    have := inn_nn (i := i) (ha i) hb b.length _ ih k
    have := ih k
    show 0 ≤ (inn (a.getD i 0) b i b.length (out a b i)).getD k 0
    omega
theorem can_mul {a b : List Int} (ha : Can a) (hb : Can b) : Can (pMul a b) := by
  obtain ⟨a0, a1, a2⟩ := can_get ha
  obtain ⟨b0, b1, b2⟩ := can_get hb
  refine can_ext (out_nn a0 b0 _) (by rw [pMul_len]; omega) ?_
  rw [pMul_len]
  obtain ⟨n, hn⟩ : ∃ n, a.length = n + 1 := ⟨a.length - 1, by omega⟩
  obtain ⟨m, hm⟩ : ∃ m, b.length = m + 1 := ⟨b.length - 1, by omega⟩
  unfold pMul
  rw [hn]
  show 0 < (inn (a.getD n 0) b n b.length (out a b n)).getD _ 0
  rw [hm]
  show 0 < (addAt (inn (a.getD n 0) b n m (out a b n)) (n + m) (a.getD n 0 * b.getD m 0)).getD _ 0
  rw [addAt_get, inn_len, out_len, if_pos (by omega)]
  have h1 := inn_nn (i := n) (a0 n) b0 m _ (out_nn a0 b0 n) (n + 1 + (m + 1) - 1 - 1)
  have h2 := out_nn a0 b0 n (n + 1 + (m + 1) - 1 - 1)
  have h3 : 0 < a.getD n 0 * b.getD m 0 := by
    rw [hn] at a2; rw [hm] at b2
    exact Int.mul_pos (by simpa using a2) (by simpa using b2)
  omega
/-- numbers from 0 on are at most what they are added -/
theorem le_ev1 : ∀ {l : List Int}, (∀ c ∈ l, 0 ≤ c) → (∀ c ∈ l, c ≤ ev 1 l) ∧ 0 ≤ ev 1 l
  | [], _ => ⟨by simp, by simp [ev]⟩
  | d :: l, h => by
    have ih := le_ev1 (l := l) fun c hc => h c (by simp [hc])
    have hd := h d (by simp)
    simp only [ev, Int.one_mul]
    refine ⟨fun c hc => ?_, by omega⟩
    rcases List.mem_cons.mp hc with rfl | hc
    · omega
    · have := ih.1 c hc; omega
end K72
/-! K72N: how many pairings of k ties a list of ties has. -/
namespace K72

/-- no name in common -/
def dis (e f : Tie) : Bool := e.1 != f.1 && e.1 != f.2 && e.2 != f.1 && e.2 != f.2
/-- a name is one of a tie's -/
def inc (v : Nat) (e : Tie) : Bool := e.1 == v || e.2 == v
theorem dis_iff {e f : Tie} : dis e f = true ↔ e.1 ≠ f.1 ∧ e.1 ≠ f.2 ∧ e.2 ≠ f.1 ∧ e.2 ≠ f.2 := by simp [dis, and_assoc]
theorem inc_iff {v : Nat} {e : Tie} : inc v e = true ↔ e.1 = v ∨ e.2 = v := by simp [inc]
theorem dis_comm (e f : Tie) : dis e f = dis f e := by
  rw [Bool.eq_iff_iff, dis_iff, dis_iff]
  constructor <;> intro ⟨a, b, c, d⟩ <;> exact ⟨Ne.symm a, Ne.symm c, Ne.symm b, Ne.symm d⟩
theorem dis_inc (e f : Tie) : dis e f = (!inc e.1 f && !inc e.2 f) := by
  rw [Bool.eq_iff_iff, dis_iff]
  simp only [inc, Bool.and_eq_true, Bool.not_eq_true', Bool.or_eq_false_iff, beq_eq_false_iff_ne]
  constructor
  · intro ⟨a, b, c, d⟩; exact ⟨⟨Ne.symm a, Ne.symm b⟩, Ne.symm c, Ne.symm d⟩
  · intro ⟨⟨a, b⟩, c, d⟩; exact ⟨Ne.symm a, Ne.symm b, Ne.symm c, Ne.symm d⟩

/-- how many pairings of 0, 1, .. ties there are -/
def mcount : List Tie → List Int
  | [] => [1]
  | e :: es => pAdd (mcount es) (0 :: mcount (es.filter (dis e))) 1
termination_by l => l.length
decreasing_by
  · simp
  · simp
    exact Nat.lt_succ_of_le (List.length_filter_le _ _)
theorem mcount_nil : mcount [] = [1] := by rw [mcount]
theorem mcount_cons (e : Tie) (es : List Tie) : mcount (e :: es) = pAdd (mcount es) (0 :: mcount (es.filter (dis e))) 1 := by rw [mcount]
/-- .. added with powers of x -/
def M (x : Int) (ts : List Tie) : Int := ev x (mcount ts)
theorem M_nil (x : Int) : M x [] = 1 := by simp [M, mcount_nil, ev]
theorem M_cons (x : Int) (e : Tie) (es : List Tie) : M x (e :: es) = M x es + x * M x (es.filter (dis e)) := by
  simp only [M, mcount_cons, ev_pAdd, ev]
  grind
/-- induction over lists of ties: the tail, and the tail's ties apart -/
theorem ties_ind {P : List Tie → Prop} (h0 : P []) (h1 : ∀ e es, P es → P (es.filter (dis e)) → P (e :: es)) : ∀ ts, P ts := by
  have all : ∀ n ts, ts.length ≤ n → P ts := by
    intro n
    induction n with
    | zero => intro ts h; cases ts with
      | nil => exact h0
      | cons => simp at h
    | succ n ih =>
      intro ts h
      cases ts with
      | nil => exact h0
      | cons e es =>
        have h' : es.length ≤ n := by simpa using h
        exact h1 e es (ih es h') (ih _ (Nat.le_trans (List.length_filter_le _ _) h'))
  intro ts
  exact all ts.length ts (Nat.le_refl _)
theorem mcount_can : ∀ ts, Can (mcount ts) := ties_ind (by rw [mcount_nil]; exact can_one) fun e es h1 h2 => by
  rw [mcount_cons]
  exact can_add h1 (can_shift h2) (by decide)
theorem counts_unique {l : List Int} {ts : List Tie} (h : Tip l) (e : ∀ x, ev x l = M x ts) : l = mcount ts := poly_eq h (mcount_can ts).tip e

/-! ### the sequence doesn't matter -/
theorem M_perm (x : Int) : ∀ n (l l' : List Tie), l.length ≤ n → l.Perm l' → M x l = M x l' := by
  intro n
  induction n with
  | zero =>
    intro l l' h p
    cases l with
    | nil => rw [List.nil_perm.mp p]
    | cons => simp at h
  | succ n ih =>
    intro l l' h p
    have go : ∀ {l l' : List Tie}, l.Perm l' → l.length ≤ n + 1 → M x l = M x l' := by
      intro l l' p
      induction p with
      | nil => intro _; rfl
      | cons a p _ =>
        intro h
        have h' := Nat.le_of_succ_le_succ (by simpa using h)
        rw [M_cons, M_cons, ih _ _ h' p, ih _ _ (Nat.le_trans (List.length_filter_le _ _) h') (p.filter _)]
      | swap a b l =>
        intro h
        have e1 : M x (b :: a :: l) = M x l + x * M x (l.filter (dis a)) + x * M x ((a :: l).filter (dis b)) := by rw [M_cons, M_cons]
        have e2 : M x (a :: b :: l) = M x l + x * M x (l.filter (dis b)) + x * M x ((b :: l).filter (dis a)) := by rw [M_cons, M_cons]
        have c := dis_comm a b
        have f : (l.filter (dis a)).filter (dis b) = (l.filter (dis b)).filter (dis a) := by
          rw [List.filter_filter, List.filter_filter]
          congr 1; funext t; exact Bool.and_comm _ _
        rw [e1, e2]
        cases d : dis a b with
        | true =>
          rw [d] at c
          rw [List.filter_cons_of_pos c.symm, List.filter_cons_of_pos d, M_cons, M_cons, f]
          grind
        | false =>
          rw [d] at c
          rw [List.filter_cons_of_neg (by rw [← c]; simp), List.filter_cons_of_neg (by rw [d]; simp)]
          omega
      | trans p q ih1 ih2 =>
        intro h
        rw [ih1 h, ih2 (by rw [← p.length_eq]; exact h)]
    exact go p h
theorem M_of_perm {l l' : List Tie} (p : l.Perm l') (x : Int) : M x l = M x l' := M_perm x l.length l l' (Nat.le_refl _) p

/-! ### by one name -/
theorem M_with (x : Int) (v : Nat) (R : List Tie) (hR : ∀ e ∈ R, inc v e = false) : ∀ A : List Tie, (∀ e ∈ A, inc v e = true) → M x (A ++ R) = M x R + x * (A.map fun e => M x (R.filter (dis e))).sum
  | [], _ => by simp
  | a :: A, h => by
    have ih := M_with x v R hR A fun e he => h e (by simp [he])
    have f : A.filter (dis a) = [] := by
      rw [List.filter_eq_nil_iff]
      intro b hb
      have h1 := inc_iff.mp (h a (by simp))
      have h2 := inc_iff.mp (h b (by simp [hb]))
      rw [dis_iff]
      intro ⟨c1, c2, c3, c4⟩
      rcases h1 with h1 | h1 <;> rcases h2 with h2 | h2
      · exact c1 (h1.trans h2.symm)
      · exact c2 (h1.trans h2.symm)
      · exact c3 (h1.trans h2.symm)
      · exact c4 (h1.trans h2.symm)
    rw [List.cons_append, M_cons, ih, List.filter_append, f, List.nil_append, List.map_cons, List.sum_cons]
    grind
theorem M_name (x : Int) (v : Nat) (ts : List Tie) : M x ts = M x (ts.filter fun e => !inc v e) + x * ((ts.filter (inc v)).map fun e => M x ((ts.filter fun e => !inc v e).filter (dis e))).sum := by
  rw [← M_with x v _ (fun e he => by simpa using (List.mem_filter.mp he).2) (ts.filter (inc v)) fun e he => (List.mem_filter.mp he).2]
  exact M_of_perm (List.filter_append_perm (inc v) ts).symm x
/-- apart from a tie of v: without v it is without the other name -/
theorem dis_rest {v o : Nat} {e : Tie} {R : List Tie} (h : e = (v, o) ∨ e = (o, v)) (hR : ∀ f ∈ R, inc v f = false) : R.filter (dis e) = R.filter fun f => !inc o f := by
  apply List.filter_congr
  intro f hf
  have := hR f hf
  rw [dis_inc]
  rcases h with rfl | rfl <;> simp [this]

/-! ### names changed -/
theorem M_map (x : Int) (φ : Tie → Tie) : ∀ ts : List Tie, (∀ e ∈ ts, ∀ f ∈ ts, dis (φ e) (φ f) = dis e f) → M x (ts.map φ) = M x ts := by
  refine ties_ind (fun _ => rfl) fun e es h1 h2 h => ?_
  rw [List.map_cons, M_cons, M_cons, h1 fun a ha b hb => h a (by simp [ha]) b (by simp [hb])]
  have f : (es.map φ).filter (dis (φ e)) = (es.filter (dis e)).map φ := by
    rw [List.filter_map]
    congr 1
    apply List.filter_congr
    intro g hg
    exact h e (by simp) g (by simp [hg])
  rw [f, h2 fun a ha b hb => h a (by simp [(List.mem_filter.mp ha).1]) b (by simp [(List.mem_filter.mp hb).1])]
theorem mcount_map (φ : Tie → Tie) (ts : List Tie) (h : ∀ e ∈ ts, ∀ f ∈ ts, dis (φ e) (φ f) = dis e f) : mcount (ts.map φ) = mcount ts :=
  counts_unique (mcount_can _).tip fun x => M_map x φ ts h

/-! ### beside each other -/
theorem M_beside (x : Int) (B : List Tie) : ∀ A : List Tie, (∀ e ∈ A, ∀ f ∈ B, dis e f = true) → M x (A ++ B) = M x A * M x B := by
  refine ties_ind (fun _ => by rw [List.nil_append, M_nil]; omega) fun e es h1 h2 h => ?_
  have f : (es ++ B).filter (dis e) = es.filter (dis e) ++ B := by
    rw [List.filter_append]
    congr 1
    exact List.filter_eq_self.mpr fun g hg => h e (by simp) g hg
  rw [List.cons_append, M_cons, M_cons, f, h1 fun a ha => h a (by simp [ha]), h2 fun a ha => h a (by simp [(List.mem_filter.mp ha).1])]
  grind

/-! ### how long, how great -/
/-- all names among n -/
def Within (n : Nat) (ts : List Tie) : Prop := ∀ e ∈ ts, e.1 < n ∧ e.2 < n ∧ e.1 ≠ e.2
/-- all names among V, which has none twice -/
def Among (V : List Nat) (ts : List Tie) : Prop := ∀ e ∈ ts, e.1 ∈ V ∧ e.2 ∈ V ∧ e.1 ≠ e.2
/-- V without the names of a tie -/
def less (V : List Nat) (e : Tie) : List Nat := V.filter fun v => !inc v e
theorem less_len {V : List Nat} (nd : V.Nodup) {e : Tie} (h1 : e.1 ∈ V) (h2 : e.2 ∈ V) (h3 : e.1 ≠ e.2) : (less V e).length + 2 = V.length := by
  have p : V.Perm (e.1 :: e.2 :: less V e) := by
    rw [List.perm_iff_count]
    intro a
    have c1 := nd.count (a := a)
    have cl : (less V e).count a = if inc a e = true then 0 else V.count a := by
      unfold less
      by_cases q : inc a e = true
      · rw [if_pos q, List.count_eq_zero]
        intro hm
        have := (List.mem_filter.mp hm).2
        rw [q] at this
        simp at this
      · rw [if_neg q, List.count_filter (by simp [q])]
    rw [List.count_cons, List.count_cons, cl]
    by_cases q1 : e.1 = a
    · have q2 : e.2 ≠ a := fun q => h3 (q1.trans q.symm)
      have : inc a e = true := inc_iff.mpr (.inl q1)
      rw [if_pos this, c1, if_pos (q1 ▸ h1)]
      simp [q1, q2]
    · by_cases q2 : e.2 = a
      · have : inc a e = true := inc_iff.mpr (.inr q2)
        rw [if_pos this, c1, if_pos (q2 ▸ h2)]
        simp [q1, q2]
      · have : ¬ inc a e = true := fun q => (inc_iff.mp q).elim q1 q2
        rw [if_neg this]
        simp [q1, q2]
  have := p.length_eq
  simp only [List.length_cons] at this
  omega
theorem less_nodup {V : List Nat} (nd : V.Nodup) (e : Tie) : (less V e).Nodup := nd.filter _
theorem among_less {V : List Nat} {e : Tie} {es : List Tie} (h : Among V es) : Among (less V e) (es.filter (dis e)) := fun f hf => by
  obtain ⟨h1, h2⟩ := List.mem_filter.mp hf
  obtain ⟨a, b, c⟩ := h f h1
  have d := dis_iff.mp h2
  refine ⟨List.mem_filter.mpr ⟨a, ?_⟩, List.mem_filter.mpr ⟨b, ?_⟩, c⟩
  · simp only [Bool.not_eq_true']
    cases q : inc f.1 e with
    | false => rfl
    | true => rcases inc_iff.mp q with z | z; exact absurd z d.1; exact absurd z d.2.2.1
  · simp only [Bool.not_eq_true']
    cases q : inc f.2 e with
    | false => rfl
    | true => rcases inc_iff.mp q with z | z; exact absurd z d.2.1; exact absurd z d.2.2.2
theorem mcount_len : ∀ ts (V : List Nat), V.Nodup → Among V ts → (mcount ts).length ≤ V.length / 2 + 1 := by
  refine ties_ind (fun V _ _ => by rw [mcount_nil]; simp) fun e es h1 h2 V nd h => ?_
  obtain ⟨a, b, c⟩ := h e (by simp)
  have hs := less_len nd a b c
  have i1 := h1 V nd fun f hf => h f (by simp [hf])
  have i2 := h2 (less V e) (less_nodup nd e) (among_less fun f hf => h f (by simp [hf]))
  rw [mcount_cons, pAdd_len, List.length_cons]
  omega
theorem within_among {n : Nat} {ts : List Tie} (h : Within n ts) : Among (List.range n) ts := fun e he => by
  obtain ⟨a, b, c⟩ := h e he
  exact ⟨List.mem_range.mpr a, List.mem_range.mpr b, c⟩
theorem M1_le : ∀ ts, 1 ≤ M 1 ts ∧ M 1 ts ≤ 2 ^ ts.length := by
  have mono : ∀ n m : Nat, n ≤ m → (2 : Int) ^ n ≤ 2 ^ m := fun n m h => by
    have : (2 : Nat) ^ n ≤ 2 ^ m := Nat.pow_le_pow_right (by decide) h
    exact_mod_cast this
  refine ties_ind (by rw [M_nil]; simp) fun e es h1 h2 => ?_
  rw [M_cons, List.length_cons, Int.pow_succ]
  have := mono _ _ (List.length_filter_le (dis e) es)
  omega
theorem mcount_bd (ts : List Tie) (h : ts.length ≤ 63) : ∀ c ∈ mcount ts, 0 ≤ c ∧ c.natAbs < 2 ^ 64 := fun c hc => by
  have h0 := (mcount_can ts).1
  have h1 := (le_ev1 h0).1 c hc
  have h2 := (M1_le ts).2
  have h3 : (2 : Int) ^ ts.length ≤ 2 ^ 63 := by
    have : (2 : Nat) ^ ts.length ≤ 2 ^ 63 := Nat.pow_le_pow_right (by decide) h
    exact_mod_cast this
  have h4 := h0 c hc
  unfold M at h2
  refine ⟨h4, ?_⟩
  omega
end K72
/-! K72O: the ties that lack, a name tied to all. -/
namespace K72

/-! ### sums with weights -/
def L (w : Nat → Int) : List Int → Int
  | [] => 0
  | c :: cs => c * w 0 + L (fun k => w (k + 1)) cs
theorem L_zeros : ∀ (n : Nat) (w : Nat → Int), L w (List.replicate n 0) = 0
  | 0, _ => rfl
  | n + 1, w => by simp [List.replicate_succ, L, L_zeros n]
theorem L_pad : ∀ (l : List Int) (w : Nat → Int) (n : Nat), L w (l ++ List.replicate n 0) = L w l
  | [], w, n => by simp [L, L_zeros]
  | c :: l, w, n => by simp [L, L_pad l]
theorem L_zip (t : Int) : ∀ (a b : List Int) (w : Nat → Int), a.length = b.length → L w ((a.zip b).map fun p => p.1 + t * p.2) = L w a + t * L w b
  | [], [], w, _ => by simp [L]
  | [], _ :: _, _, h => by simp at h
  | _ :: _, [], _, h => by simp at h
  | c :: a, d :: b, w, h => by
    simp only [List.zip_cons_cons, List.map_cons, L, L_zip t a b _ (by simpa using h)]
    grind
theorem L_pAdd (w : Nat → Int) (t : Int) (a b : List Int) : L w (pAdd a b t) = L w a + t * L w b := by
  unfold pAdd
  rw [L_zip t _ _ w (by rw [pad_len _ _ (by omega), pad_len _ _ (by omega)])]
  unfold pad
  rw [L_pad, L_pad]
theorem L_shift (w : Nat → Int) (a : List Int) : L w (0 :: a) = L (fun k => w (k + 1)) a := by simp [L]
theorem L_congr : ∀ (l : List Int) {w w' : Nat → Int}, (∀ k, k < l.length → w k = w' k) → L w l = L w' l
  | [], _, _, _ => rfl
  | c :: l, w, w', h => by
    simp only [L]
    rw [h 0 (by simp), L_congr l fun k hk => h (k + 1) (by simpa using hk)]
theorem L_smul (s : Int) : ∀ (l : List Int) (w : Nat → Int), L (fun k => s * w k) l = s * L w l
  | [], _ => by simp [L]
  | c :: l, w => by
    simp only [L]
    rw [L_smul s l]
    grind
theorem ev_L (x : Int) : ∀ (l : List Int), ev x l = L (fun k => x ^ k) l
  | [] => rfl
  | c :: l => by
    have e : (fun k => x ^ (k + 1)) = fun k => x * x ^ k := by funext k; rw [Int.pow_succ]; exact Int.mul_comm _ _
    simp only [ev, L, e, L_smul, ev_L x l]
    simp

/-! ### all pairs of some names -/
def pairs : List Nat → List Tie
  | [] => []
  | v :: V => V.map (fun u => (v, u)) ++ pairs V
theorem pairs_mem : ∀ {V : List Nat} {e : Tie}, e ∈ pairs V → e.1 ∈ V ∧ e.2 ∈ V
  | v :: V, e, h => by
    rcases List.mem_append.mp h with h | h
    · obtain ⟨u, hu, rfl⟩ := List.mem_map.mp h
      exact ⟨by simp, by simp [hu]⟩
    · obtain ⟨a, b⟩ := pairs_mem h
      exact ⟨by simp [a], by simp [b]⟩
theorem pairs_ne : ∀ {V : List Nat} {e : Tie}, V.Nodup → e ∈ pairs V → e.1 ≠ e.2
  | v :: V, e, nd, h => by
    obtain ⟨n1, n2⟩ := List.nodup_cons.mp nd
    rcases List.mem_append.mp h with h | h
    · obtain ⟨u, hu, rfl⟩ := List.mem_map.mp h
      intro q; exact n1 (by rw [show v = u from q]; exact hu)
    · exact pairs_ne n2 h
theorem pairs_nodup : ∀ {V : List Nat}, V.Nodup → (pairs V).Nodup
  | [], _ => List.nodup_nil
  | v :: V, nd => by
    obtain ⟨n1, n2⟩ := List.nodup_cons.mp nd
    unfold pairs
    rw [List.nodup_append]
    refine ⟨?_, pairs_nodup n2, fun a ha b hb q => ?_⟩
    · rw [List.nodup_iff_pairwise_ne, List.pairwise_map]
      exact (List.nodup_iff_pairwise_ne.mp n2).imp fun h q => h (Prod.mk.inj q).2
    · obtain ⟨u, hu, rfl⟩ := List.mem_map.mp ha
      have := (pairs_mem hb).1
      rw [← q] at this
      exact n1 this
theorem pairs_not (u : Nat) : ∀ V : List Nat, (pairs V).filter (fun e => !inc u e) = pairs (V.filter fun v => v != u)
  | [] => rfl
  | v :: V => by
    show (V.map (fun u => (v, u)) ++ pairs V).filter _ = _
    rw [List.filter_append, pairs_not u V, List.filter_map]
    by_cases h : v = u
    · have e : (fun e => !inc u e) ∘ (fun w => (v, w)) = fun _ => false := by funext w; simp [inc, h]
      rw [e, List.filter_cons_of_neg (by simp [h])]
      have e2 : V.filter (fun _ => false) = [] := by simp
      rw [e2]
      rfl
    · have e : (fun e => !inc u e) ∘ (fun w => (v, w)) = fun w => w != u := by
        funext w
        have hb : (v == u) = false := by simpa using h
        simp [inc, hb, bne]
      rw [e, List.filter_cons_of_pos (by simp [h])]
      rfl
theorem pairs_dis (V : List Nat) (e : Tie) : (pairs V).filter (dis e) = pairs (less V e) := by
  have h1 : (pairs V).filter (dis e) = ((pairs V).filter fun f => !inc e.1 f).filter fun f => !inc e.2 f := by
    rw [List.filter_filter]
    congr 1
    funext f
    rw [dis_inc, Bool.and_comm]
  rw [h1, pairs_not, pairs_not, List.filter_filter]
  congr 1
  unfold less
  congr 1
  funext v
  simp only [inc, bne, Bool.not_or, Bool.and_comm, BEq.comm (a := v)]
/-- the pairings of n names of which all are tied -/
def Kn (x : Int) : Nat → Int
  | 0 => 1
  | 1 => 1
  | n + 2 => Kn x (n + 1) + x * ((n + 1 : Nat) : Int) * Kn x n
theorem sum_const {α : Type} (c : Int) : ∀ (l : List α) (f : α → Int), (∀ a ∈ l, f a = c) → (l.map f).sum = (l.length : Int) * c
  | [], _, _ => by simp
  | a :: l, f, h => by
    rw [List.map_cons, List.sum_cons, h a (by simp), sum_const c l f fun b hb => h b (by simp [hb]), List.length_cons]
    have : ((l.length + 1 : Nat) : Int) = (l.length : Int) + 1 := by omega
    rw [this]
    grind
theorem filter_ne_len {V : List Nat} (nd : V.Nodup) {u : Nat} (h : u ∈ V) : (V.filter fun v => v != u).length + 1 = V.length := by
  rw [← nd.erase_eq_filter u]
  rw [List.length_erase_of_mem h]
  have := List.length_pos_of_mem h
  omega
theorem M_pairs (x : Int) : ∀ (n : Nat) (V : List Nat), V.length ≤ n → V.Nodup → M x (pairs V) = Kn x V.length
  | 0, V, h, nd => by
    cases V with
    | nil => exact M_nil x
    | cons => simp at h
  | n + 1, [], _, _ => M_nil x
  | n + 1, v :: V, h, nd => by
    obtain ⟨n1, n2⟩ := List.nodup_cons.mp nd
    have hV : V.length ≤ n := by simpa using h
    have f1 : (pairs (v :: V)).filter (fun e => !inc v e) = pairs V := by
      rw [pairs_not, List.filter_cons_of_neg (by simp)]
      congr 1
      exact List.filter_eq_self.mpr fun u hu => by
        simp only [bne_iff_ne, ne_eq]
        intro q; exact n1 (q ▸ hu)
    have f2 : (pairs (v :: V)).filter (inc v) = V.map fun u => (v, u) := by
      unfold pairs
      rw [List.filter_append]
      have a1 : (V.map fun u => (v, u)).filter (inc v) = V.map fun u => (v, u) := List.filter_eq_self.mpr fun e he => by
        obtain ⟨u, _, rfl⟩ := List.mem_map.mp he
        simp [inc]
      have a2 : (pairs V).filter (inc v) = [] := by
        rw [List.filter_eq_nil_iff]
        intro e he q
        obtain ⟨b1, b2⟩ := pairs_mem he
        rcases inc_iff.mp q with z | z
        · exact n1 (z ▸ b1)
        · exact n1 (z ▸ b2)
      rw [a1, a2, List.append_nil]
    rw [M_name x v, f1, f2, M_pairs x n V hV n2, List.map_map]
    have hs : ∀ u ∈ V, ((fun e => M x ((pairs V).filter (dis e))) ∘ fun u => (v, u)) u = Kn x (V.length - 1) := fun u hu => by
      show M x ((pairs V).filter (dis (v, u))) = _
      rw [dis_rest (.inl rfl) (fun f hf => by
        cases q : inc v f with
        | false => rfl
        | true =>
          obtain ⟨b1, b2⟩ := pairs_mem hf
          rcases inc_iff.mp q with z | z
          · exact absurd (z ▸ b1) n1
          · exact absurd (z ▸ b2) n1), pairs_not]
      have hl := filter_ne_len n2 hu
      rw [M_pairs x n _ (by omega) (n2.filter _)]
      congr 1
      omega
    rw [sum_const _ V _ hs]
    cases V with
    | nil => simp [Kn]
    | cons w V =>
      show Kn x (V.length + 1) + x * (((V.length + 1 : Nat) : Int) * Kn x V.length) = Kn x (V.length + 2)
      simp only [Kn]
      grind
/-- the pairs that some ties lack -/
def comp (V : List Nat) (ts : List Tie) : List Tie := (pairs V).filter fun e => !decide (e ∈ ts)
def Wt (x : Int) (n : Nat) (ts : List Tie) : Int := L (fun i => (-x) ^ i * Kn x (n - 2 * i)) (mcount ts)
theorem Wt_nil (x : Int) (n : Nat) : Wt x n [] = Kn x n := by simp [Wt, mcount_nil, L]
theorem Wt_cons (x : Int) (n : Nat) (e : Tie) (es : List Tie) : Wt x n (e :: es) = Wt x n es - x * Wt x (n - 2) (es.filter (dis e)) := by
  unfold Wt
  rw [mcount_cons, L_pAdd, L_shift]
  have h : (fun k => (-x) ^ (k + 1) * Kn x (n - 2 * (k + 1))) = fun k => -x * ((-x) ^ k * Kn x (n - 2 - 2 * k)) := by
    funext k
    rw [Int.pow_succ, show n - 2 * (k + 1) = n - 2 - 2 * k by omega]
    grind
  rw [h, L_smul]
  grind
theorem M_comp (x : Int) : ∀ ts (V : List Nat), V.Nodup → (∀ e ∈ ts, e ∈ pairs V) → ts.Nodup → M x (comp V ts) = Wt x V.length ts := by
  refine ties_ind (fun V nd _ _ => ?_) fun e es h1 h2 V nd h ndt => ?_
  · rw [Wt_nil, ← M_pairs x V.length V (Nat.le_refl _) nd]
    congr 1
    exact List.filter_eq_self.mpr fun e _ => by simp
  · obtain ⟨n1, n2⟩ := List.nodup_cons.mp ndt
    have he := h e (by simp)
    have hm := pairs_mem he
    have i1 := h1 V nd (fun f hf => h f (by simp [hf])) n2
    have hl := less_len nd hm.1 hm.2 (pairs_ne nd he)
    have i2 := h2 (less V e) (less_nodup nd e) (fun f hf => by
      obtain ⟨a, b⟩ := List.mem_filter.mp hf
      rw [← pairs_dis]
      exact List.mem_filter.mpr ⟨h f (by simp [a]), b⟩) (n2.filter _)
    have p : (comp V es).Perm (e :: comp V (e :: es)) := by
      have m : e ∈ comp V es := List.mem_filter.mpr ⟨he, by simp [n1]⟩
      have q := List.perm_cons_erase m
      have nc : (comp V es).Nodup := (pairs_nodup nd).filter _
      rw [nc.erase_eq_filter] at q
      have f : (comp V es).filter (· != e) = comp V (e :: es) := by
        unfold comp
        rw [List.filter_filter]
        congr 1
        funext f
        by_cases c1 : f = e <;> by_cases c2 : f ∈ es <;> simp [c1, c2]
      rw [f] at q
      exact q
    have f : (comp V (e :: es)).filter (dis e) = comp (less V e) (es.filter (dis e)) := by
      unfold comp
      rw [← pairs_dis, List.filter_filter, List.filter_filter]
      apply List.filter_congr
      intro g hg
      cases d : dis e g with
      | false => simp
      | true =>
        have : g ≠ e := fun q => by
          rw [q] at d
          exact (dis_iff.mp d).1 rfl
        simp [this, d, List.mem_filter]
    have := M_of_perm p x
    rw [M_cons, i1, f, i2] at this
    rw [Wt_cons]
    have e2 : (less V e).length = V.length - 2 := by omega
    rw [e2] at this
    omega

/-! ### a name tied to all -/
theorem sum_split (g : Nat → Int) (p : Nat → Bool) (f : Nat → Int) (x : Int) : ∀ V : List Nat, (V.map fun a => f a + if p a = true then 0 else x * g a).sum = (V.map f).sum + x * ((V.filter fun a => !p a).map g).sum
  | [] => by simp
  | a :: V => by
    rw [List.map_cons, List.sum_cons, sum_split g p f x V, List.map_cons, List.sum_cons]
    cases h : p a with
    | true => rw [List.filter_cons_of_neg (by simp [h])]; simp; omega
    | false =>
      rw [List.filter_cons_of_pos (by simp [h]), List.map_cons, List.sum_cons]
      simp
      grind
theorem M_names (x : Int) : ∀ ts (V : List Nat), V.Nodup → Among V ts → (V.map fun a => M x (ts.filter fun e => !inc a e)).sum = L (fun k => ((V.length : Int) - 2 * (k : Int)) * x ^ k) (mcount ts) := by
  refine ties_ind (fun V nd _ => ?_) fun e es h1 h2 V nd h => ?_
  · rw [mcount_nil, sum_const 1 V _ fun a _ => by simp [M_nil]]
    simp [L]
  · obtain ⟨a, b, c⟩ := h e (by simp)
    have hs := less_len nd a b c
    have i1 := h1 V nd fun f hf => h f (by simp [hf])
    have i2 := h2 (less V e) (less_nodup nd e) (among_less fun f hf => h f (by simp [hf]))
    have hf : (fun a => M x ((e :: es).filter fun f => !inc a f)) = fun a => M x (es.filter fun f => !inc a f) + if inc a e = true then 0 else x * M x ((es.filter (dis e)).filter fun f => !inc a f) := by
      funext a
      cases q : inc a e with
      | true => rw [List.filter_cons_of_neg (by simp [q])]; simp
      | false =>
        rw [List.filter_cons_of_pos (by simp [q]), M_cons]
        have : (es.filter fun f => !inc a f).filter (dis e) = (es.filter (dis e)).filter fun f => !inc a f := by
          rw [List.filter_filter, List.filter_filter]
          congr 1; funext t; exact Bool.and_comm _ _
        rw [this]
        simp
    rw [hf, sum_split (fun a => M x ((es.filter (dis e)).filter fun f => !inc a f)) (fun a => inc a e) (fun a => M x (es.filter fun f => !inc a f)) x V, i1]
    have i2' : ((V.filter fun a => !inc a e).map fun a => M x ((es.filter (dis e)).filter fun f => !inc a f)).sum = L (fun k => (((less V e).length : Int) - 2 * (k : Int)) * x ^ k) (mcount (es.filter (dis e))) := i2
    rw [i2', mcount_cons, L_pAdd, L_shift]
    have hw : (fun k : Nat => ((V.length : Int) - 2 * ((k + 1 : Nat) : Int)) * x ^ (k + 1)) = fun (k : Nat) => x * ((((less V e).length : Int) - 2 * (k : Int)) * x ^ k) := by
      funext k
      have e1 : ((less V e).length : Int) = (V.length : Int) - 2 := by omega
      have e2 : ((k + 1 : Nat) : Int) = (k : Int) + 1 := by omega
      rw [e1, e2, Int.pow_succ]
      grind
    rw [hw, L_smul]
    omega
theorem M_cone (x : Int) {n : Nat} {ts cone : List Tie} (h : Within n ts) (p : cone.Perm (ts ++ (List.range n).map fun a => (a, n))) : M x cone = M x ts + x * L (fun k => ((n : Int) - 2 * (k : Int)) * x ^ k) (mcount ts) := by
  rw [M_of_perm p, M_name x n]
  have f1 : (ts ++ (List.range n).map fun a => (a, n)).filter (fun e => !inc n e) = ts := by
    rw [List.filter_append]
    have a1 : ts.filter (fun e => !inc n e) = ts := List.filter_eq_self.mpr fun e he => by
      obtain ⟨a, b, _⟩ := h e he
      have h1 : (e.1 == n) = false := by simp; omega
      have h2 : (e.2 == n) = false := by simp; omega
      simp [inc, h1, h2]
    have a2 : ((List.range n).map fun a => (a, n)).filter (fun e => !inc n e) = [] := by
      rw [List.filter_eq_nil_iff]
      intro e he
      obtain ⟨a, _, rfl⟩ := List.mem_map.mp he
      simp [inc]
    rw [a1, a2, List.append_nil]
  have f2 : (ts ++ (List.range n).map fun a => (a, n)).filter (inc n) = (List.range n).map fun a => (a, n) := by
    rw [List.filter_append]
    have a1 : ts.filter (inc n) = [] := by
      rw [List.filter_eq_nil_iff]
      intro e he q
      obtain ⟨a, b, _⟩ := h e he
      rcases inc_iff.mp q with z | z <;> omega
    have a2 : ((List.range n).map fun a => (a, n)).filter (inc n) = (List.range n).map fun a => (a, n) := List.filter_eq_self.mpr fun e he => by
      obtain ⟨a, _, rfl⟩ := List.mem_map.mp he
      simp [inc]
    rw [a1, a2, List.nil_append]
  rw [f1, f2, List.map_map]
  have hm : ((fun e => M x (ts.filter (dis e))) ∘ fun a => (a, n)) = fun a => M x (ts.filter fun e => !inc a e) := by
    funext a
    show M x (ts.filter (dis (a, n))) = _
    rw [dis_rest (v := n) (o := a) (.inr rfl) fun f hf => by
      obtain ⟨a, b, _⟩ := h f hf
      have h1 : (f.1 == n) = false := by simp; omega
      have h2 : (f.2 == n) = false := by simp; omega
      simp [inc, h1, h2]]
  rw [hm, M_names x ts (List.range n) List.nodup_range (within_among h), List.length_range]
end K72
/-! K72P: pairings with weights on the names; a name with one tie goes. -/
namespace K72

/-! ### weights -/
def pr (w : Nat → Int) : List Nat → Int
  | [] => 1
  | v :: V => w v * pr w V
theorem pr_one : ∀ V : List Nat, pr (fun _ => 1) V = 1
  | [] => rfl
  | v :: V => by simp [pr, pr_one V]
theorem pr_take {w : Nat → Int} {v : Nat} : ∀ {V : List Nat}, V.Nodup → v ∈ V → pr w V = w v * pr w (V.filter fun u => u != v)
  | u :: V, nd, h => by
    obtain ⟨n1, n2⟩ := List.nodup_cons.mp nd
    by_cases q : u = v
    · subst q
      have e : V.filter (fun x => x != u) = V := List.filter_eq_self.mpr fun x hx => by
        have : x ≠ u := fun z => n1 (z ▸ hx)
        simp [this]
      rw [List.filter_cons_of_neg (by simp), e]
      rfl
    · have hv : v ∈ V := (List.mem_cons.mp h).elim (fun z => absurd z.symm q) id
      rw [List.filter_cons_of_pos (by simp [q])]
      simp only [pr]
      rw [pr_take n2 hv]
      grind
theorem pr_congr {w w' : Nat → Int} : ∀ {V : List Nat}, (∀ v ∈ V, w v = w' v) → pr w V = pr w' V
  | [], _ => rfl
  | v :: V, h => by
    simp only [pr]
    rw [h v (by simp), pr_congr fun u hu => h u (by simp [hu])]
theorem pr_pos {w : Nat → Int} : ∀ {V : List Nat}, (∀ v ∈ V, 1 ≤ w v) → 1 ≤ pr w V ∧ ∀ v ∈ V, w v ≤ pr w V
  | [], _ => ⟨by simp [pr], by simp⟩
  | v :: V, h => by
    obtain ⟨a, b⟩ := pr_pos (w := w) (V := V) fun u hu => h u (by simp [hu])
    have hv := h v (by simp)
    have e : pr w (v :: V) = w v * pr w V := rfl
    have h1 : w v * 1 ≤ w v * pr w V := Int.mul_le_mul_of_nonneg_left a (by omega)
    have h2 : 1 * pr w V ≤ w v * pr w V := Int.mul_le_mul_of_nonneg_right hv (by omega)
    refine ⟨by omega, fun u hu => ?_⟩
    rcases List.mem_cons.mp hu with rfl | hu
    · omega
    · have := b u hu; omega
/-- w: the weight of a name that is in no tie; f: of one that is -/
def Wm (x : Int) (f w : Nat → Int) (V : List Nat) : List Tie → Int
  | [] => pr w V
  | e :: es => Wm x f w V es + x * (f e.1 * f e.2) * Wm x f w (less V e) (es.filter (dis e))
termination_by ts => ts.length
decreasing_by
  · simp
  · simp
    exact Nat.lt_succ_of_le (List.length_filter_le _ _)
theorem Wm_nil (x : Int) (f w : Nat → Int) (V : List Nat) : Wm x f w V [] = pr w V := by rw [Wm]
theorem Wm_cons (x : Int) (f w : Nat → Int) (V : List Nat) (e : Tie) (es : List Tie) : Wm x f w V (e :: es) = Wm x f w V es + x * (f e.1 * f e.2) * Wm x f w (less V e) (es.filter (dis e)) := by rw [Wm]
theorem Wm_one (x : Int) : ∀ (ts : List Tie) (V : List Nat), Wm x (fun _ => 1) (fun _ => 1) V ts = M x ts := by
  refine ties_ind (fun V => ?_) fun e es h1 h2 V => ?_
  · rw [Wm_nil, pr_one, M_nil]
  · rw [Wm_cons, M_cons, h1, h2]; simp
abbrev wo (V : List Nat) (v : Nat) : List Nat := V.filter fun u => u != v
abbrev wt (ts : List Tie) (v : Nat) : List Tie := ts.filter fun e => !inc v e
theorem less_wo (V : List Nat) (e : Tie) : less V e = wo (wo V e.1) e.2 := by
  unfold less wo
  rw [List.filter_filter]
  congr 1
  funext u
  simp only [inc, bne]
  rw [show (e.1 == u) = (u == e.1) from BEq.comm, show (e.2 == u) = (u == e.2) from BEq.comm]
  cases (u == e.1) <;> cases (u == e.2) <;> rfl
theorem wo_comm (V : List Nat) (u v : Nat) : wo (wo V u) v = wo (wo V v) u := by
  unfold wo
  rw [List.filter_filter, List.filter_filter]
  congr 1; funext a; exact Bool.and_comm _ _
theorem wo_less (V : List Nat) (e : Tie) (v : Nat) : wo (less V e) v = less (wo V v) e := by
  rw [less_wo, less_wo, wo_comm _ e.2 v, wo_comm _ e.1 v]
theorem wt_dis (ts : List Tie) (e : Tie) (v : Nat) : wt (ts.filter (dis e)) v = (wt ts v).filter (dis e) := by
  unfold wt
  rw [List.filter_filter, List.filter_filter]
  congr 1; funext a; exact Bool.and_comm _ _
theorem dis_wt (ts : List Tie) (e : Tie) : ts.filter (dis e) = wt (wt ts e.1) e.2 := by
  unfold wt
  rw [List.filter_filter]
  congr 1; funext a; rw [dis_inc]; exact Bool.and_comm _ _
theorem wt_self {ts : List Tie} {v : Nat} (h : ∀ e ∈ ts, inc v e = false) : wt ts v = ts := List.filter_eq_self.mpr fun e he => by simp [h e he]
theorem wo_self {V : List Nat} {v : Nat} (h : v ∉ V) : wo V v = V := List.filter_eq_self.mpr fun u hu => by
  have : u ≠ v := fun z => h (z ▸ hu)
  simp [this]
theorem wo_nodup {V : List Nat} (nd : V.Nodup) (v : Nat) : (wo V v).Nodup := nd.filter _
theorem wo_mem {V : List Nat} {u v : Nat} : u ∈ wo V v ↔ u ∈ V ∧ u ≠ v := by simp [wo]
theorem less_mem {V : List Nat} {u : Nat} {e : Tie} : u ∈ less V e ↔ u ∈ V ∧ u ≠ e.1 ∧ u ≠ e.2 := by
  rw [less_wo, wo_mem, wo_mem, and_assoc]
theorem Wm_congr (x : Int) {f f' w w' : Nat → Int} : ∀ (ts : List Tie) (V : List Nat), Among V ts → (∀ v ∈ V, f v = f' v ∧ w v = w' v) → Wm x f w V ts = Wm x f' w' V ts := by
  refine ties_ind (fun V _ h => ?_) fun e es h1 h2 V ha h => ?_
  · rw [Wm_nil, Wm_nil]; exact pr_congr fun v hv => (h v hv).2
  · obtain ⟨a, b, c⟩ := ha e (by simp)
    have hs : Among V es := fun g hg => ha g (by simp [hg])
    rw [Wm_cons, Wm_cons, h1 V hs h, h2 (less V e) (among_less hs) fun v hv => h v (List.mem_filter.mp hv).1, (h _ a).1, (h _ b).1]
/-- a name without ties -/
theorem Wm_alone (x : Int) (f w : Nat → Int) {v : Nat} : ∀ (ts : List Tie) (V : List Nat), V.Nodup → v ∈ V → (∀ e ∈ ts, inc v e = false) → Wm x f w V ts = w v * Wm x f w (wo V v) ts := by
  refine ties_ind (fun V nd hv _ => ?_) fun e es h1 h2 V nd hv h => ?_
  · rw [Wm_nil, Wm_nil]; exact pr_take nd hv
  · have he := h e (by simp)
    have hl : v ∈ less V e := List.mem_filter.mpr ⟨hv, by simp [he]⟩
    rw [Wm_cons, Wm_cons, h1 V nd hv fun g hg => h g (by simp [hg]), h2 (less V e) (less_nodup nd e) hl fun g hg => h g (by simp [(List.mem_filter.mp hg).1]), wo_less]
    grind
theorem inc_false {v : Nat} {e : Tie} : inc v e = false ↔ e.1 ≠ v ∧ e.2 ≠ v := by simp [inc]
/-- a name whose one tie goes to p -/
theorem Wm_leaf (x : Int) (f w : Nat → Int) {v p : Nat} (hvp : v ≠ p) : ∀ (ts : List Tie) (V : List Nat), V.Nodup → Among V ts → v ∈ V → p ∈ V → (∀ e ∈ ts, inc v e = true → inc p e = true) → (ts.filter (inc v)).length = 1 →
    Wm x f w V ts = w v * Wm x f w (wo V v) (wt ts v) + x * (f v * f p) * Wm x f w (wo (wo V v) p) (wt (wt ts v) p) := by
  refine ties_ind (fun V _ _ _ _ _ h => by simp at h) fun e es h1 h2 V nd ha hv hp h hc => ?_
  obtain ⟨a, b, c⟩ := ha e (by simp)
  have hs : Among V es := fun g hg => ha g (by simp [hg])
  by_cases q : inc v e = true
  · -- the one tie
    have hq := h e (by simp) q
    rw [List.filter_cons_of_pos q] at hc
    have hn : ∀ g ∈ es, inc v g = false := by
      have h0 : es.filter (inc v) = [] := List.length_eq_zero_iff.mp (by simpa using hc)
      intro g hg
      have := List.filter_eq_nil_iff.mp h0 g hg
      simpa using this
    have ew : wt (e :: es) v = es := by
      unfold wt
      rw [List.filter_cons_of_neg (by simp [q])]
      exact wt_self hn
    have ee : (e = (v, p) ∨ e = (p, v)) := by
      obtain ⟨e1, e2⟩ := e
      rcases inc_iff.mp q with z | z <;> rcases inc_iff.mp hq with y | y
      · exact absurd (z.symm.trans y) hvp
      · left; simp at z y; rw [z, y]
      · right; simp at z y; rw [z, y]
      · exact absurd (z.symm.trans y) hvp
    have el : less V e = wo (wo V v) p := by
      rw [less_wo]
      rcases ee with rfl | rfl
      · rfl
      · exact wo_comm _ _ _
    have ed : es.filter (dis e) = wt es p := by
      rw [dis_wt]
      rcases ee with rfl | rfl
      · show wt (wt es v) p = _
        rw [wt_self hn]
      · show wt (wt es p) v = _
        exact wt_self fun g hg => hn g (List.mem_filter.mp hg).1
    rw [Wm_cons, Wm_alone x f w es V nd hv hn, ew, el, ed]
    rcases ee with rfl | rfl
    · rfl
    · show _ + x * (f p * f v) * _ = _
      rw [Int.mul_comm (f p) (f v)]
  · -- another
    have qf : inc v e = false := by simpa using q
    rw [List.filter_cons_of_neg (by simp [qf])] at hc
    have hcs : ∀ g ∈ es, inc v g = true → inc p g = true := fun g hg => h g (by simp [hg])
    have i1 := h1 V nd hs hv hp hcs hc
    have ew : wt (e :: es) v = e :: wt es v := by
      unfold wt
      rw [List.filter_cons_of_pos (by simp [qf])]
    have hvl : v ∈ less V e := List.mem_filter.mpr ⟨hv, by simp [qf]⟩
    rw [Wm_cons, i1, ew, Wm_cons]
    by_cases qp : inc p e = true
    · -- it holds p: v is alone without it
      have al : ∀ g ∈ es.filter (dis e), inc v g = false := fun g hg => by
        obtain ⟨g1, g2⟩ := List.mem_filter.mp hg
        cases z : inc v g with
        | false => rfl
        | true =>
          exfalso
          have y := hcs g g1 z
          obtain ⟨d1, d2, d3, d4⟩ := dis_iff.mp g2
          rcases inc_iff.mp qp with k | k <;> rcases inc_iff.mp y with m | m
          · exact d1 (k.trans m.symm)
          · exact d2 (k.trans m.symm)
          · exact d3 (k.trans m.symm)
          · exact d4 (k.trans m.symm)
      have e1 : wt (e :: wt es v) p = wt (wt es v) p := by
        unfold wt
        rw [List.filter_cons_of_neg (by simp [qp])]
      have e2 : (wt es v).filter (dis e) = es.filter (dis e) := by
        rw [← wt_dis]
        exact wt_self al
      rw [Wm_alone x f w _ _ (less_nodup nd e) hvl al, e1, wo_less, e2]
      grind
    · have qpf : inc p e = false := by simpa using qp
      have hpl : p ∈ less V e := List.mem_filter.mpr ⟨hp, by simp [qpf]⟩
      have e1 : wt (e :: wt es v) p = e :: wt (wt es v) p := by
        unfold wt
        rw [List.filter_cons_of_pos (by simp [qpf])]
      have hc2 : ((es.filter (dis e)).filter (inc v)).length = 1 := by
        rw [List.filter_filter, ← hc]
        congr 1
        apply List.filter_congr
        intro g hg
        cases z : inc v g with
        | false => simp
        | true =>
          have y := hcs g hg z
          have hne : g.1 = v ∧ g.2 = p ∨ g.1 = p ∧ g.2 = v := by
            rcases inc_iff.mp z with k | k <;> rcases inc_iff.mp y with m | m
            · exact absurd (k.symm.trans m) hvp
            · exact .inl ⟨k, m⟩
            · exact .inr ⟨m, k⟩
            · exact absurd (k.symm.trans m) hvp
          have f1 := inc_false.mp qf
          have f2 := inc_false.mp qpf
          have : dis e g = true := by
            rw [dis_iff]
            rcases hne with ⟨k, m⟩ | ⟨k, m⟩
            · rw [k, m]; exact ⟨f1.1, f2.1, f1.2, f2.2⟩
            · rw [k, m]; exact ⟨f2.1, f1.1, f2.2, f1.2⟩
          simp [this]
      have i2 := h2 (less V e) (less_nodup nd e) (among_less hs) hvl hpl (fun g hg => hcs g (List.mem_filter.mp hg).1) hc2
      rw [i2, e1, Wm_cons, wo_less, wo_less, wt_dis, wt_dis]
      grind
/-- the weights of one name are changed -/
theorem Wm_change (x : Int) {f w f' w' : Nat → Int} {p : Nat} (c d : Int) (hf : f' p = c * f p) (hw : w' p = c * w p + d) (ho : ∀ u, u ≠ p → f' u = f u ∧ w' u = w u) :
    ∀ (ts : List Tie) (V : List Nat), V.Nodup → Among V ts → p ∈ V → Wm x f' w' V ts = c * Wm x f w V ts + d * Wm x f w (wo V p) (wt ts p) := by
  refine ties_ind (fun V nd _ hp => ?_) fun e es h1 h2 V nd ha hp => ?_
  · have e : wt ([] : List Tie) p = [] := rfl
    rw [e, Wm_nil, Wm_nil, Wm_nil, pr_take nd hp, pr_take (w := w) nd hp, hw, pr_congr (w := w') (w' := w) fun v hv => (ho v (wo_mem.mp hv).2).2]
    grind
  · obtain ⟨a, b, cc⟩ := ha e (by simp)
    have hs : Among V es := fun g hg => ha g (by simp [hg])
    rw [Wm_cons, Wm_cons, h1 V nd hs hp]
    by_cases q : inc p e = true
    · have e1 : wt (e :: es) p = wt es p := by
        unfold wt
        rw [List.filter_cons_of_neg (by simp [q])]
      have hl : p ∉ less V e := fun z => by
        have := (List.mem_filter.mp z).2
        rw [q] at this
        simp at this
      have e2 : Wm x f' w' (less V e) (es.filter (dis e)) = Wm x f w (less V e) (es.filter (dis e)) := Wm_congr x _ _ (among_less hs) fun v hv => ho v fun z => hl (z ▸ hv)
      have e3 : f' e.1 * f' e.2 = c * (f e.1 * f e.2) := by
        rcases inc_iff.mp q with z | z
        · have : e.2 ≠ p := fun y => cc (z.trans y.symm)
          rw [z, hf, (ho _ this).1]; grind
        · have : e.1 ≠ p := fun y => cc (y.trans z.symm)
          rw [z, hf, (ho _ this).1]; grind
      rw [e1, e2, e3]
      grind
    · have qf : inc p e = false := by simpa using q
      have e1 : wt (e :: es) p = e :: wt es p := by
        unfold wt
        rw [List.filter_cons_of_pos (by simp [qf])]
      have hl : p ∈ less V e := List.mem_filter.mpr ⟨hp, by simp [qf]⟩
      obtain ⟨f1, f2⟩ := inc_false.mp qf
      rw [h2 (less V e) (less_nodup nd e) (among_less hs) hl, e1, Wm_cons, (ho _ f1).1, (ho _ f2).1, wo_less, wt_dis]
      grind
/-- it is at least each weight -/
theorem Wm_ge {f w : Nat → Int} : ∀ (ts : List Tie) (V : List Nat), Among V ts → (∀ v ∈ V, 0 ≤ f v ∧ 1 ≤ w v) → 1 ≤ Wm 1 f w V ts ∧ ∀ v ∈ V, w v ≤ Wm 1 f w V ts := by
  refine ties_ind (fun V _ h => ?_) fun e es h1 h2 V ha h => ?_
  · rw [Wm_nil]; exact pr_pos fun v hv => (h v hv).2
  · obtain ⟨a, b, c⟩ := ha e (by simp)
    have hs : Among V es := fun g hg => ha g (by simp [hg])
    obtain ⟨i1, i2⟩ := h1 V hs h
    obtain ⟨j1, _⟩ := h2 (less V e) (among_less hs) fun v hv => h v (List.mem_filter.mp hv).1
    have k : 0 ≤ 1 * (f e.1 * f e.2) * Wm 1 f w (less V e) (es.filter (dis e)) := Int.mul_nonneg (by rw [Int.one_mul]; exact Int.mul_nonneg (h _ a).1 (h _ b).1) (by omega)
    rw [Wm_cons]
    exact ⟨by omega, fun v hv => by have := i2 v hv; omega⟩
end K72
/-! K72R: counts by the last name. -/
namespace K72

def Ord (n : Nat) (ts : List Tie) : Prop := ∀ e ∈ ts, e.1 < e.2 ∧ e.2 < n
theorem Ord.within {n : Nat} {ts : List Tie} (h : Ord n ts) : Within n ts := fun e he => by
  obtain ⟨a, b⟩ := h e he
  exact ⟨by omega, b, by omega⟩
/-- the names above u come one nearer -/
def sh (u a : Nat) : Nat := if u < a then a - 1 else a
def relab (u : Nat) (e : Tie) : Tie := (sh u e.1, sh u e.2)
def restOf (v u : Nat) (ts : List Tie) : List Tie := (ts.filter fun e => !inc u e && !inc v e).map (relab u)
theorem sh_inj {u a b : Nat} (ha : a ≠ u) (hb : b ≠ u) : sh u a = sh u b ↔ a = b := by
  unfold sh
  split <;> split <;> omega
theorem relab_dis {u : Nat} {e f : Tie} (he : inc u e = false) (hf : inc u f = false) : dis (relab u e) (relab u f) = dis e f := by
  obtain ⟨e1, e2⟩ := inc_false.mp he
  obtain ⟨f1, f2⟩ := inc_false.mp hf
  rw [Bool.eq_iff_iff, dis_iff, dis_iff]
  simp only [relab, ne_eq, sh_inj e1 f1, sh_inj e1 f2, sh_inj e2 f1, sh_inj e2 f2]
theorem rest_ord {n u : Nat} {ts : List Tie} (h : Ord n ts) (hu : u < n - 1) : Ord (n - 2) (restOf (n - 1) u ts) := fun f hf => by
  obtain ⟨e, he, rfl⟩ := List.mem_map.mp hf
  obtain ⟨h1, h2⟩ := List.mem_filter.mp he
  obtain ⟨a, b⟩ := h e h1
  simp only [Bool.and_eq_true, Bool.not_eq_true'] at h2
  obtain ⟨u1, u2⟩ := inc_false.mp h2.1
  obtain ⟨v1, v2⟩ := inc_false.mp h2.2
  simp only [relab, sh]
  constructor
  · split <;> split <;> omega
  · split <;> omega
theorem rest_M (x : Int) (v u : Nat) (ts : List Tie) : M x (restOf v u ts) = M x ((wt ts v).filter fun f => !inc u f) := by
  unfold restOf
  rw [M_map x (relab u) _ fun e he f hf => ?_]
  · congr 1
    unfold wt
    rw [List.filter_filter]
  · have h1 := (List.mem_filter.mp he).2
    have h2 := (List.mem_filter.mp hf).2
    simp only [Bool.and_eq_true, Bool.not_eq_true'] at h1 h2
    exact relab_dis h1.1 h2.1
/-- the names that are tied to the last one -/
def ups (v : Nat) (ts : List Tie) : List Nat := (ts.filter fun e => e.2 == v).map (·.1)
theorem ups_inc {n : Nat} {ts : List Tie} (h : Ord n ts) : ts.filter (inc (n - 1)) = ts.filter fun e => e.2 == n - 1 := by
  apply List.filter_congr
  intro e he
  obtain ⟨a, b⟩ := h e he
  rw [Bool.eq_iff_iff, inc_iff]
  simp only [beq_iff_eq]
  omega
def cntA (v : Nat) (ts : List Tie) : Nat → List Int
  | 0 => mcount (wt ts v)
  | i + 1 => pAdd (cntA v ts i) (0 :: mcount (restOf v ((ups v ts).getD i 0) ts)) 1
theorem cntA_can (v : Nat) (ts : List Tie) : ∀ i, Can (cntA v ts i)
  | 0 => mcount_can _
  | i + 1 => can_add (cntA_can v ts i) (can_shift (mcount_can _)) (by decide)
theorem cntA_ev (x : Int) (v : Nat) (ts : List Tie) : ∀ i, i ≤ (ups v ts).length → ev x (cntA v ts i) = M x (wt ts v) + x * (((ups v ts).take i).map fun u => M x ((wt ts v).filter fun f => !inc u f)).sum
  | 0, _ => by simp [cntA, M]
  | i + 1, h => by
    have hi : i < (ups v ts).length := h
    have ih := cntA_ev x v ts i (by omega)
    have e : (ups v ts).take (i + 1) = (ups v ts).take i ++ [(ups v ts).getD i 0] := by
      rw [List.take_add_one, List.getElem?_eq_getElem hi, List.getD_eq_getElem?_getD, List.getElem?_eq_getElem hi]; rfl
    have em : ev x (mcount (restOf v ((ups v ts).getD i 0) ts)) = M x ((wt ts v).filter fun f => !inc ((ups v ts).getD i 0) f) := rest_M x v _ ts
    simp only [cntA]
    rw [ev_pAdd, ih, e, List.map_append, List.sum_append]
    simp only [ev, em, List.map_cons, List.map_nil, List.sum_cons, List.sum_nil]
    grind
theorem counts_last {n : Nat} {ts : List Tie} (h : Ord n ts) : cntA (n - 1) ts (ups (n - 1) ts).length = mcount ts := by
  refine counts_unique (cntA_can _ _ _).tip fun x => ?_
  rw [cntA_ev x _ _ _ (Nat.le_refl _), List.take_length, M_name x (n - 1) ts, ups_inc h]
  congr 2
  unfold ups
  rw [List.map_map]
  congr 1
  apply List.map_congr_left
  intro e he
  obtain ⟨h1, h2⟩ := List.mem_filter.mp he
  obtain ⟨a, b⟩ := e
  have hb : b = n - 1 := by simpa using h2
  subst hb
  have := dis_rest (v := n - 1) (o := a) (e := (a, n - 1)) (R := wt ts (n - 1)) (.inr rfl) fun f hf => by simpa using (List.mem_filter.mp hf).2
  show M x ((wt ts (n - 1)).filter fun f => !inc a f) = _
  rw [← this]
theorem ups_lt {n u : Nat} {ts : List Tie} (h : Ord n ts) (hu : u ∈ ups (n - 1) ts) : u < n - 1 := by
  obtain ⟨e, he, rfl⟩ := List.mem_map.mp hu
  obtain ⟨h1, h2⟩ := List.mem_filter.mp he
  have := h e h1
  simp at h2
  omega
theorem ups_len (v : Nat) (ts : List Tie) : (ups v ts).length ≤ ts.length := by
  unfold ups
  rw [List.length_map]
  exact List.length_filter_le _ _
theorem ord_wt {n : Nat} {ts : List Tie} (h : Ord n ts) : Ord (n - 1) (wt ts (n - 1)) := fun e he => by
  obtain ⟨h1, h2⟩ := List.mem_filter.mp he
  obtain ⟨a, b⟩ := h e h1
  obtain ⟨c, d⟩ := inc_false.mp (by simpa using h2)
  exact ⟨a, by omega⟩
theorem rest_len (v u : Nat) (ts : List Tie) : (restOf v u ts).length ≤ ts.length := by
  unfold restOf
  rw [List.length_map]
  exact List.length_filter_le _ _
end K72
/-! K72: the text, slots, readings and derivations of the linked program (printed by gen.py). -/
namespace K72
open PySem PySem.Spec L2 VL
def topS (i : Nat) : Stmt := PySem.Challenge.pw_rootsonaline_k72_whole_pairings_of_webs.main.body.getD i (.Pass ⟨0, 0, 0, 0⟩)
/-! ### has_web_ring: 0 web, 1 parts, 2 a, 3 b, 4 gone, 5 stays, 6 part; level 1 -/
abbrev s_has_web_ring : Stmt := topS 1
abbrev n_has_web_ring : List Str := ["web", "parts", "a", "b", "gone", "stays", "part"]
theorem sc_has_web_ring : FnScope n_has_web_ring ["web"] (defScope s_has_web_ring) := ⟨rfl, rfl, rfl, by decide +kernel, rfl, by decide +kernel, by decide +kernel⟩
def rd_has_web_ring (K : PySem.W.Frag) : TS :=
  (tSeq (tAsg (tLstRg (tRg1 (tOp (rIx K) (tVar 0) (tC (.int 0))))) (gName 1))
  (tSeq (tFor (iSeq K (tOp (rIx K) (tVar 0) (tC (.int 1)))) (gTup K 2 (gCons (gName 2) (gCons (gName 3) gNil)))
  (tSeq (tIfS (tTest (tOp (rEqD K) (tOp (rIx K) (tVar 1) (tVar 2)) (tOp (rIx K) (tVar 1) (tVar 3)))) (tRet (tC (.bl true))) tNext)
  (tSeq (tAsg (tTup (tCons (tOp (rIx K) (tVar 1) (tVar 3)) (tCons (tOp (rIx K) (tVar 1) (tVar 2)) tNil))) (gTup K 2 (gCons (gName 4) (gCons (gName 5) gNil))))
  (tAsg (tLc (iSeq K (tVar 1)) (gName 6) tYes (tIf (tTest (tOp (rEqD K) (tVar 6) (tVar 4))) (tVar 5) (tVar 6)) [6]) (gName 1)))))
  (tRet (tC (.bl false)))))
theorem dv_has_web_ring {P : Program} {w : World} {K : PySem.W.Frag} {mg : Str → Option Value} {base : Heap} (mn : Mn mg) {f : Addr} {cdv : Value} {A : Around} {outer : List PySem.Env} {s : Shared} {H : Hp} {E : XK} (hr : Room 0 (A.deeper (PyProof.Rows.envOfC "has_web_ring" (defScope s_has_web_ring) s.heap.objs.size f cdv))) :
    PSs (cxOf CX0 P w K mg base n_has_web_ring "has_web_ring" (defScope s_has_web_ring) f cdv A outer s H E).nox (defBody s_has_web_ring) (rd_has_web_ring K) := by
  have nd := sc_has_web_ring.nd
  have hu64 := hr.units
  have hu65 := hr.units1
  have hu1 := hr.unit1
  exact (pss_cons (ps_set (i := 1) nd rfl (Or.inl rfl) (pe_listRg rfl (by rfl) mn.list (prg_1 (by rfl) mn.range (pe_ix ix_seq (pv 0) pe_int (fun _ _ => rfl)))))
  (pss_cons (ps_for PassesOwn.never rfl (pi_seq (pe_ix ix_seq (pv 0) pe_int (fun _ _ => rfl))) (pg_tup rfl (pgs_cons (pg_name (i := 2) nd rfl (Or.inl rfl)) (pgs_cons (pg_name (i := 3) nd rfl (Or.inl rfl)) pgs_nil))) (pss_cons (ps_if (pt_cmpR (op_eqD hu64) (pe_ix ix_seq (pv 1) (pv 2) (fun _ _ => rfl)) (pe_ix ix_seq (pv 1) (pv 3) (fun _ _ => rfl)) (nomark _)) (pss_one (ps_ret pe_bl)) pss_nil)
  (pss_cons (ps_asg (pe_tup (pa_cons (pe_ix ix_seq (pv 1) (pv 3) (fun _ _ => rfl)) (pa_cons (pe_ix ix_seq (pv 1) (pv 2) (fun _ _ => rfl)) pa_nil))) (pg_tup rfl (pgs_cons (pg_name (i := 4) nd rfl (Or.inr rfl)) (pgs_cons (pg_name (i := 5) nd rfl (Or.inr rfl)) pgs_nil))))
  (pss_one (ps_setLc (i := 1) (own := [("part", 6)]) rfl nd rfl rfl (sw_true rfl rfl rfl (by decide +kernel)) (pi_seq (pv 1)) (blkOk_by (N := n_has_web_ring) (sc := defScope s_has_web_ring) (by decide +kernel)) (fun _ _ _ _ _ => (pg_name (i := 6) nd rfl (Or.inl rfl))) (fun _ _ _ _ _ => pts_nil) (fun _ _ _ _ _ => (pe_ifExp (pt_cmpR (op_eqD hu64) (pv 6) (pv 4) (nomark _)) (pv 5) (pv 6))))))))
  (pss_one (ps_ret pe_bl))))
/-! ### polynomial_sum: 0 one, 1 other, 2 times, 3 size, 4 x, 5 y; level 1 -/
abbrev s_polynomial_sum : Stmt := topS 3
abbrev n_polynomial_sum : List Str := ["one", "other", "times", "size", "x", "y"]
theorem sc_polynomial_sum : FnScope n_polynomial_sum ["one", "other", "times"] (defScope s_polynomial_sum) := ⟨rfl, rfl, rfl, by decide +kernel, rfl, by decide +kernel, by decide +kernel⟩
def rd_polynomial_sum (K : PySem.W.Frag) : TS :=
  (tSeq (tAsg (tCB rMax2Q (tCons (tCB (rLenQ K) (tCons (tVar 0) tNil)) (tCons (tCB (rLenQ K) (tCons (tVar 1) tNil)) tNil))) (gName 3))
  (tSeq (tPar 0 1 (tCons (tOp (rAddQ K) (tCB (rListQ K) (tCons (tVar 0) tNil)) (tOp rMulQ (tLst (tCons (tC (.int 0)) tNil)) (tOp (rI0 fun i j => .int (i - j)) (tVar 3) (tCB (rLenQ K) (tCons (tVar 0) tNil))))) (tCons (tOp (rAddQ K) (tCB (rListQ K) (tCons (tVar 1) tNil)) (tOp rMulQ (tLst (tCons (tC (.int 0)) tNil)) (tOp (rI0 fun i j => .int (i - j)) (tVar 3) (tCB (rLenQ K) (tCons (tVar 1) tNil))))) tNil)))
  (tRet (tLc (RZ.iZipA K (tCons (tVar 0) (tCons (tVar 1) tNil))) (gTup K 2 (gCons (gName 4) (gCons (gName 5) gNil))) tYes (tOp (rAddQ K) (tVar 4) (tOp rMulQ (tVar 2) (tVar 5))) [4, 5]))))
theorem dv_polynomial_sum {P : Program} {w : World} {K : PySem.W.Frag} {mg : Str → Option Value} {base : Heap} (mn : Mn mg) {f : Addr} {cdv : Value} {A : Around} {outer : List PySem.Env} {s : Shared} {H : Hp} {E : XK} (hr : Room 0 (A.deeper (PyProof.Rows.envOfC "polynomial_sum" (defScope s_polynomial_sum) s.heap.objs.size f cdv))) :
    PSs (cxOf CX0 P w K mg base n_polynomial_sum "polynomial_sum" (defScope s_polynomial_sum) f cdv A outer s H E).nox (defBody s_polynomial_sum) (rd_polynomial_sum K) := by
  have nd := sc_polynomial_sum.nd
  have hu64 := hr.units
  have hu65 := hr.units1
  have hu1 := hr.unit1
  exact (pss_cons (ps_set (i := 3) nd rfl (Or.inl rfl) (pe_callB (call_max2Q rfl) (by rfl) mn.max (by decide +kernel) (pa_cons (pe_callB call_lenQ (by rfl) mn.len PySem.boot_len (pa_cons (pv 0) pa_nil)) (pa_cons (pe_callB call_lenQ (by rfl) mn.len PySem.boot_len (pa_cons (pv 1) pa_nil)) pa_nil))))
  (pss_cons (ps_par (i := 0) (j := 1) rfl nd rfl rfl (by decide) rfl rfl (pa_cons (pe_op op_addQ (pe_callTy call_listQ (by rfl) mn.list (by decide +kernel) (pa_cons (pv 0) pa_nil)) (pe_op op_mulQ (pe_lst (pa_cons pe_int pa_nil)) (pe_op op_sub (pv 3) (pe_callB call_lenQ (by rfl) mn.len PySem.boot_len (pa_cons (pv 0) pa_nil))))) (pa_cons (pe_op op_addQ (pe_callTy call_listQ (by rfl) mn.list (by decide +kernel) (pa_cons (pv 1) pa_nil)) (pe_op op_mulQ (pe_lst (pa_cons pe_int pa_nil)) (pe_op op_sub (pv 3) (pe_callB call_lenQ (by rfl) mn.len PySem.boot_len (pa_cons (pv 1) pa_nil))))) pa_nil)) (by rfl))
  (pss_one (ps_ret (pe_lc (own := [("x", 4), ("y", 5)]) rfl nd (RZ.pi_zipA (by rfl) mn.zip (pa_cons (pv 0) (pa_cons (pv 1) pa_nil))) (blkOk_by (N := n_polynomial_sum) (sc := defScope s_polynomial_sum) (by decide +kernel)) (fun _ _ _ _ _ => (pg_tup rfl (pgs_cons (pg_name (i := 4) nd rfl (Or.inl rfl)) (pgs_cons (pg_name (i := 5) nd rfl (Or.inl rfl)) pgs_nil)))) (fun _ _ _ _ _ => pts_nil) (fun _ _ _ _ _ => (pe_op op_addQ (pv 4) (pe_op op_mulQ (pv 2) (pv 5)))))))))
/-! ### least_tied: 0 names, 1 ties, 2 best, 3 most, 4 name, 5 many, 6 tie; level 1 -/
abbrev s_least_tied : Stmt := topS 4
abbrev n_least_tied : List Str := ["names", "ties", "best", "most", "name", "many", "tie"]
theorem sc_least_tied : FnScope n_least_tied ["names", "ties"] (defScope s_least_tied) := ⟨rfl, rfl, rfl, by decide +kernel, rfl, by decide +kernel, by decide +kernel⟩
def rd_least_tied (K : PySem.W.Frag) : TS :=
  (tSeq (tAsg (tTup (tCons (tC .non) (tCons (tC (.int 0)) tNil))) (gTup K 2 (gCons (gName 2) (gCons (gName 3) gNil))))
  (tSeq (tFor (iSeq K (tVar 0)) (gName 4)
  (tSeq (tAsg (tCB (rLenQ K) (tCons (tLc (iSeq K (tVar 1)) (gName 6) (tTest (tOp (rInQ K false) (tVar 4) (tVar 6))) (tVar 6) [6]) tNil)) (gName 5))
  (tIfS (tTest (tOp (rI0 fun i j => .bl (decide (j < i))) (tVar 5) (tVar 3))) (tPar 2 3 (tCons (tVar 4) (tCons (tVar 5) tNil))) tNext)))
  (tRet (tVar 2))))
theorem dv_least_tied {P : Program} {w : World} {K : PySem.W.Frag} {mg : Str → Option Value} {base : Heap} (mn : Mn mg) {f : Addr} {cdv : Value} {A : Around} {outer : List PySem.Env} {s : Shared} {H : Hp} {E : XK} (hr : Room 0 (A.deeper (PyProof.Rows.envOfC "least_tied" (defScope s_least_tied) s.heap.objs.size f cdv))) :
    PSs (cxOf CX0 P w K mg base n_least_tied "least_tied" (defScope s_least_tied) f cdv A outer s H E).nox (defBody s_least_tied) (rd_least_tied K) := by
  have nd := sc_least_tied.nd
  have hu64 := hr.units
  have hu65 := hr.units1
  have hu1 := hr.unit1
  exact (pss_cons (ps_asg (pe_tup (pa_cons pe_non (pa_cons pe_int pa_nil))) (pg_tup rfl (pgs_cons (pg_name (i := 2) nd rfl (Or.inl rfl)) (pgs_cons (pg_name (i := 3) nd rfl (Or.inl rfl)) pgs_nil))))
  (pss_cons (ps_for PassesOwn.never rfl (pi_seq (pv 0)) (pg_name (i := 4) nd rfl (Or.inr rfl)) (pss_cons (ps_set (i := 5) nd rfl (Or.inl rfl) (pe_callB call_lenQ (by rfl) mn.len PySem.boot_len (pa_cons (pe_lc (own := [("tie", 6)]) rfl nd (pi_seq (pv 1)) (blkOk_by (N := n_least_tied) (sc := defScope s_least_tied) (by decide +kernel)) (fun _ _ _ _ _ => (pg_name (i := 6) nd rfl (Or.inl rfl))) (fun _ _ _ _ _ => (pts_one (pt_cmpR (op_inQ hu65) (pv 4) (pv 6) (by rfl)))) (fun _ _ _ _ _ => (pv 6))) pa_nil)))
  (pss_one (ps_if (pt_cmpR op_gt (pv 5) (pv 3) (nomark _)) (pss_one (ps_par (i := 2) (j := 3) rfl nd rfl rfl (by decide) rfl rfl (pa_cons (pv 4) (pa_cons (pv 5) pa_nil)) (by rfl))) pss_nil))))
  (pss_one (ps_ret (pv 2)))))
/-! ### counts_within: 0 names, 1 ties, 2 found, 3 line, 4 here, 5 left, 6 many, 7 name, 8 rest, 9 tie, 10 other, 11 late, 12 x, 13 one; level 2 -/
abbrev s_counts_within : Stmt := topS 5
abbrev n_counts_within : List Str := ["names", "ties", "found", "line", "here", "left", "many", "name", "rest", "tie", "other", "late", "x", "one"]
theorem sc_counts_within : FnScope n_counts_within ["names", "ties"] (defScope s_counts_within) := ⟨rfl, rfl, rfl, by decide +kernel, rfl, by decide +kernel, by decide +kernel⟩
def rd_counts_within (K : PySem.W.Frag) (sp_least_tied : Sp) (sp_polynomial_sum : Sp) : TS :=
  (tSeq (tPar 2 3 (tCons (tLst (tCons (tC (.int 0)) tNil)) (tCons (tLst (tCons (tTup (tCons (tCB (rTupleQ K) (tCons (tVar 0) tNil)) (tCons (tCB (rTupleQ K) (tCons (tVar 1) tNil)) (tCons (tC (.int 0)) tNil)))) tNil)) tNil)))
  (tSeq (tWhile (tTest (tOp (rNeD K) (tVar 3) (tLst tNil))) (tSeq (tAsg (tBM0 K "list" rPop (tVar 3)) (gTup K 3 (gCons (gName 4) (gCons (gName 5) (gCons (gName 6) gNil)))))
  (tSeq (tAsg (tCall sp_least_tied [] E0 (tCons (tVar 4) (tCons (tVar 5) tNil))) (gName 7))
  (tIfS (tTest (tOp rIsNQ (tVar 7) (tC .non))) (tAsg (tCall sp_polynomial_sum [] E0 (tCons (tVar 2) (tCons (tOp (rAddQ K) (tOp rMulQ (tLst (tCons (tC (.int 0)) tNil)) (tVar 6)) (tLst (tCons (tC (.int 1)) tNil))) (tCons (tC (.int 1)) tNil)))) (gName 2)) (tSeq (tAsg (tCB (rTupleQ K) (tCons (tLc (iSeq K (tVar 5)) (gName 9) (tTest (tOp (rInQ K true) (tVar 7) (tVar 9))) (tVar 9) [9]) tNil)) (gName 8))
  (tSeq (tDrop (tBM K "list" rAppend (tVar 3) (tCons (tTup (tCons (tCB (rTupleQ K) (tCons (tLc (iSeq K (tVar 4)) (gName 12) (tTest (tOp (rNeD K) (tVar 12) (tVar 7))) (tVar 12) [12]) tNil)) (tCons (tVar 8) (tCons (tVar 6) tNil)))) tNil)))
  (tFor (iSeq K (tVar 5)) (gName 9)
  (tIfS (tTest (tOp (rInQ K false) (tVar 7) (tVar 9))) (tSeq (tAsg (tOp (rI0 fun i j => .int (i - j)) (tOp (rAddQ K) (tOp (rIx K) (tVar 9) (tC (.int 0))) (tOp (rIx K) (tVar 9) (tC (.int 1)))) (tVar 7)) (gName 10))
  (tSeq (tAsg (tCB (rTupleQ K) (tCons (tLc (iSeq K (tVar 8)) (gName 13) (tTest (tOp (rInQ K true) (tVar 10) (tVar 13))) (tVar 13) [13]) tNil)) (gName 11))
  (tDrop (tBM K "list" rAppend (tVar 3) (tCons (tTup (tCons (tCB (rTupleQ K) (tCons (tLc (iSeq K (tVar 4)) (gName 12) (tTest (tOp (rInQ K true) (tVar 12) (tTup (tCons (tVar 7) (tCons (tVar 10) tNil))))) (tVar 12) [12]) tNil)) (tCons (tVar 11) (tCons (tOp (rAddQ K) (tVar 6) (tC (.int 1))) tNil)))) tNil))))) tNext))))))))
  (tRet (tVar 2))))
theorem dv_counts_within {P : Program} {w : World} {K : PySem.W.Frag} {mg : Str → Option Value} {base : Heap} (mn : Mn mg) {sp_least_tied : Sp} (c_least_tied : Cal P w K mg base 1 "least_tied" ["names", "ties"] sp_least_tied) {sp_polynomial_sum : Sp} (c_polynomial_sum : Cal P w K mg base 1 "polynomial_sum" ["one", "other", "times"] sp_polynomial_sum) {f : Addr} {cdv : Value} {A : Around} {outer : List PySem.Env} {s : Shared} {H : Hp} {E : XK} (hr : Room 1 (A.deeper (PyProof.Rows.envOfC "counts_within" (defScope s_counts_within) s.heap.objs.size f cdv))) :
    PSs (cxOf CX0 P w K mg base n_counts_within "counts_within" (defScope s_counts_within) f cdv A outer s H E).nox (defBody s_counts_within) (rd_counts_within K sp_least_tied sp_polynomial_sum) := by
  have nd := sc_counts_within.nd
  have hu64 := hr.units
  have hu65 := hr.units1
  have hu1 := hr.unit1
  exact (pss_cons (ps_par (i := 2) (j := 3) rfl nd rfl rfl (by decide) rfl rfl (pa_cons (pe_lst (pa_cons pe_int pa_nil)) (pa_cons (pe_lst (pa_cons (pe_tup (pa_cons (pe_callTy call_tupleQ (by rfl) mn.tuple (by decide +kernel) (pa_cons (pv 0) pa_nil)) (pa_cons (pe_callTy call_tupleQ (by rfl) mn.tuple (by decide +kernel) (pa_cons (pv 1) pa_nil)) (pa_cons pe_int pa_nil)))) pa_nil)) pa_nil)) (by rfl))
  (pss_cons (ps_while PassesOwn.never (pt_cmpR (op_neD hu64) (pv 3) (pe_lst pa_nil) (nomark _)) (pss_cons (ps_asg (pe_bm0 PySem.F.plainAttrs_list PySem.F.slot_list_pop PySem.F.type_list_pop mt_pop (pv 3)) (pg_tup rfl (pgs_cons (pg_name (i := 4) nd rfl (Or.inl rfl)) (pgs_cons (pg_name (i := 5) nd rfl (Or.inl rfl)) (pgs_cons (pg_name (i := 6) nd rfl (Or.inl rfl)) pgs_nil)))))
  (pss_cons (ps_set (i := 7) nd rfl (Or.inr rfl) (Cal.pe c_least_tied (hr.mono (by decide)) (by rfl) (pa_cons (pv 4) (pa_cons (pv 5) pa_nil))))
  (pss_one (ps_if (pt_cmpR op_isNQ (pv 7) pe_non (nomark _)) (pss_one (ps_set (i := 2) nd rfl (Or.inl rfl) (Cal.pe c_polynomial_sum (hr.mono (by decide)) (by rfl) (pa_cons (pv 2) (pa_cons (pe_op op_addQ (pe_op op_mulQ (pe_lst (pa_cons pe_int pa_nil)) (pv 6)) (pe_lst (pa_cons pe_int pa_nil))) (pa_cons pe_int pa_nil)))))) (pss_cons (ps_set (i := 8) nd rfl (Or.inl rfl) (pe_callTy call_tupleQ (by rfl) mn.tuple (by decide +kernel) (pa_cons (pe_lc (own := [("tie", 9)]) rfl nd (pi_seq (pv 5)) (blkOk_by (N := n_counts_within) (sc := defScope s_counts_within) (by decide +kernel)) (fun _ _ _ _ _ => (pg_name (i := 9) nd rfl (Or.inl rfl))) (fun _ _ _ _ _ => (pts_one (pt_cmpR (op_notInQ hu65) (pv 7) (pv 9) (by rfl)))) (fun _ _ _ _ _ => (pv 9))) pa_nil)))
  (pss_cons (ps_expr (pe_bm PySem.F.plainAttrs_list PySem.F.slot_list_append PySem.F.type_list_append mt_append (pv 3) (pa_cons (pe_tup (pa_cons (pe_callTy call_tupleQ (by rfl) mn.tuple (by decide +kernel) (pa_cons (pe_lc (own := [("x", 12)]) rfl nd (pi_seq (pv 4)) (blkOk_by (N := n_counts_within) (sc := defScope s_counts_within) (by decide +kernel)) (fun _ _ _ _ _ => (pg_name (i := 12) nd rfl (Or.inl rfl))) (fun _ _ _ _ _ => (pts_one (pt_cmpR (op_neD hu64) (pv 12) (pv 7) (nomark _)))) (fun _ _ _ _ _ => (pv 12))) pa_nil)) (pa_cons (pv 8) (pa_cons (pv 6) pa_nil)))) pa_nil)))
  (pss_one (ps_for PassesOwn.never rfl (pi_seq (pv 5)) (pg_name (i := 9) nd rfl (Or.inl rfl)) (pss_one (ps_if (pt_cmpR (op_inQ hu65) (pv 7) (pv 9) (by rfl)) (pss_cons (ps_set (i := 10) nd rfl (Or.inr rfl) (pe_op op_sub (pe_op op_addQ (pe_ix ix_seq (pv 9) pe_int (fun _ _ => rfl)) (pe_ix ix_seq (pv 9) pe_int (fun _ _ => rfl))) (pv 7)))
  (pss_cons (ps_set (i := 11) nd rfl (Or.inl rfl) (pe_callTy call_tupleQ (by rfl) mn.tuple (by decide +kernel) (pa_cons (pe_lc (own := [("one", 13)]) rfl nd (pi_seq (pv 8)) (blkOk_by (N := n_counts_within) (sc := defScope s_counts_within) (by decide +kernel)) (fun _ _ _ _ _ => (pg_name (i := 13) nd rfl (Or.inl rfl))) (fun _ _ _ _ _ => (pts_one (pt_cmpR (op_notInQ hu65) (pv 10) (pv 13) (by rfl)))) (fun _ _ _ _ _ => (pv 13))) pa_nil)))
  (pss_one (ps_expr (pe_bm PySem.F.plainAttrs_list PySem.F.slot_list_append PySem.F.type_list_append mt_append (pv 3) (pa_cons (pe_tup (pa_cons (pe_callTy call_tupleQ (by rfl) mn.tuple (by decide +kernel) (pa_cons (pe_lc (own := [("x", 12)]) rfl nd (pi_seq (pv 4)) (blkOk_by (N := n_counts_within) (sc := defScope s_counts_within) (by decide +kernel)) (fun _ _ _ _ _ => (pg_name (i := 12) nd rfl (Or.inl rfl))) (fun _ _ _ _ _ => (pts_one (pt_cmpR (op_notInQ hu65) (pv 12) (pe_tup (pa_cons (pv 7) (pa_cons (pv 10) pa_nil))) (by rfl)))) (fun _ _ _ _ _ => (pv 12))) pa_nil)) (pa_cons (pv 11) (pa_cons (pe_op op_addQ (pv 6) pe_int) pa_nil)))) pa_nil)))))) pss_nil)))))))))))
  (pss_one (ps_ret (pv 2)))))
/-! ### polynomial_times: 0 one, 1 other, 2 found, 3 i, 4 x, 5 j, 6 y; level 1 -/
abbrev s_polynomial_times : Stmt := topS 6
abbrev n_polynomial_times : List Str := ["one", "other", "found", "i", "x", "j", "y"]
theorem sc_polynomial_times : FnScope n_polynomial_times ["one", "other"] (defScope s_polynomial_times) := ⟨rfl, rfl, rfl, by decide +kernel, rfl, by decide +kernel, by decide +kernel⟩
def rd_polynomial_times (K : PySem.W.Frag) : TS :=
  (tSeq (tAsg (tOp rMulQ (tLst (tCons (tC (.int 0)) tNil)) (tOp (rI0 fun i j => .int (i - j)) (tOp (rAddQ K) (tCB (rLenQ K) (tCons (tVar 0) tNil)) (tCB (rLenQ K) (tCons (tVar 1) tNil))) (tC (.int 1)))) (gName 2))
  (tSeq (tFor (iEnumQ K (tCons (tVar 0) tNil)) (gTup K 2 (gCons (gName 3) (gCons (gName 4) gNil)))
  (tFor (iEnumQ K (tCons (tVar 1) tNil)) (gTup K 2 (gCons (gName 5) (gCons (gName 6) gNil)))
  (tAsg (tOp (rAddQ K) (tOp (rIx K) (tVar 2) (tOp (rAddQ K) (tVar 3) (tVar 5))) (tOp rMulQ (tVar 4) (tVar 6))) (gSub (tVar 2) (tOp (rAddQ K) (tVar 3) (tVar 5)) rSetL))))
  (tRet (tVar 2))))
theorem dv_polynomial_times {P : Program} {w : World} {K : PySem.W.Frag} {mg : Str → Option Value} {base : Heap} (mn : Mn mg) {f : Addr} {cdv : Value} {A : Around} {outer : List PySem.Env} {s : Shared} {H : Hp} {E : XK} (hr : Room 0 (A.deeper (PyProof.Rows.envOfC "polynomial_times" (defScope s_polynomial_times) s.heap.objs.size f cdv))) :
    PSs (cxOf CX0 P w K mg base n_polynomial_times "polynomial_times" (defScope s_polynomial_times) f cdv A outer s H E).nox (defBody s_polynomial_times) (rd_polynomial_times K) := by
  have nd := sc_polynomial_times.nd
  have hu64 := hr.units
  have hu65 := hr.units1
  have hu1 := hr.unit1
  exact (pss_cons (ps_set (i := 2) nd rfl (Or.inl rfl) (pe_op op_mulQ (pe_lst (pa_cons pe_int pa_nil)) (pe_op op_sub (pe_op op_addQ (pe_callB call_lenQ (by rfl) mn.len PySem.boot_len (pa_cons (pv 0) pa_nil)) (pe_callB call_lenQ (by rfl) mn.len PySem.boot_len (pa_cons (pv 1) pa_nil))) pe_int)))
  (pss_cons (ps_for PassesOwn.never rfl (pi_enumQ (by rfl) mn.enumerate (pa_cons (pv 0) pa_nil)) (pg_tup rfl (pgs_cons (pg_name (i := 3) nd rfl (Or.inl rfl)) (pgs_cons (pg_name (i := 4) nd rfl (Or.inl rfl)) pgs_nil))) (pss_one (ps_for PassesOwn.never rfl (pi_enumQ (by rfl) mn.enumerate (pa_cons (pv 1) pa_nil)) (pg_tup rfl (pgs_cons (pg_name (i := 5) nd rfl (Or.inl rfl)) (pgs_cons (pg_name (i := 6) nd rfl (Or.inl rfl)) pgs_nil))) (pss_one (ps_asg (pe_op op_addQ (pe_ix ix_seq (pv 2) (pe_op op_addQ (pv 3) (pv 5)) (fun _ _ => rfl)) (pe_op op_mulQ (pv 4) (pv 6))) (pg_sub (pv 2) (pe_op op_addQ (pv 3) (pv 5)) set_list))))))
  (pss_one (ps_ret (pv 2)))))
/-! ### names_by_ways: 0 web, 1 near, 2 a, 3 b, 4 found, 5 seen, 6 root, 7 line, 8 name, 9 ahead, 10 late; level 1 -/
abbrev s_names_by_ways : Stmt := topS 7
abbrev n_names_by_ways : List Str := ["web", "near", "a", "b", "found", "seen", "root", "line", "name", "ahead", "late"]
theorem sc_names_by_ways : FnScope n_names_by_ways ["web"] (defScope s_names_by_ways) := ⟨rfl, rfl, rfl, by decide +kernel, rfl, by decide +kernel, by decide +kernel⟩
def rd_names_by_ways (K : PySem.W.Frag) : TS :=
  (tSeq (tAsg (tLc (iRng1 (tCons (tOp (rIx K) (tVar 0) (tC (.int 0))) tNil)) (gName 8) tYes (tLst tNil) [8]) (gName 1))
  (tSeq (tFor (iSeq K (tOp (rIx K) (tVar 0) (tC (.int 1)))) (gTup K 2 (gCons (gName 2) (gCons (gName 3) gNil)))
  (tSeq (tDrop (tBM K "list" rAppend (tOp (rIx K) (tVar 1) (tVar 2)) (tCons (tVar 3) tNil)))
  (tDrop (tBM K "list" rAppend (tOp (rIx K) (tVar 1) (tVar 3)) (tCons (tVar 2) tNil)))))
  (tSeq (tPar 4 5 (tCons (tLst tNil) (tCons tDNewK tNil)))
  (tSeq (tFor (iRng1 (tCons (tOp (rIx K) (tVar 0) (tC (.int 0))) tNil)) (gName 6)
  (tIfS (tB (tDNotIn (tVar 6) (tVar 5))) (tSeq (sDPut (tVar 5) (tVar 6) (tC (.bl true)))
  (tSeq (tAsg (tLst (tCons (tTup (tCons (tVar 6) (tCons (tC .non) tNil))) tNil)) (gName 7))
  (tWhile (tTest (tOp (rNeD K) (tVar 7) (tLst tNil))) (tSeq (tAsg (tBM0 K "list" rPop (tVar 7)) (gTup K 2 (gCons (gName 8) (gCons (gName 9) gNil))))
  (tSeq (tDrop (tBM K "list" rAppend (tVar 4) (tCons (tTup (tCons (tVar 8) (tCons (tVar 9) tNil))) tNil)))
  (tFor (iSeq K (tOp (rIx K) (tVar 1) (tVar 8))) (gName 10)
  (tIfS (tB (tDNotIn (tVar 10) (tVar 5))) (tSeq (sDPut (tVar 5) (tVar 10) (tC (.bl true)))
  (tDrop (tBM K "list" rAppend (tVar 7) (tCons (tTup (tCons (tVar 10) (tCons (tVar 8) tNil))) tNil)))) tNext))))))) tNext))
  (tRet (tVar 4))))))
theorem dv_names_by_ways {P : Program} {w : World} {K : PySem.W.Frag} {mg : Str → Option Value} {base : Heap} (mn : Mn mg) {f : Addr} {cdv : Value} {A : Around} {outer : List PySem.Env} {s : Shared} {H : Hp} {E : XK} (hr : Room 0 (A.deeper (PyProof.Rows.envOfC "names_by_ways" (defScope s_names_by_ways) s.heap.objs.size f cdv))) :
    PSs (cxOf CX0 P w K mg base n_names_by_ways "names_by_ways" (defScope s_names_by_ways) f cdv A outer s H E).nox (defBody s_names_by_ways) (rd_names_by_ways K) := by
  have nd := sc_names_by_ways.nd
  have hu64 := hr.units
  have hu65 := hr.units1
  have hu1 := hr.unit1
  exact (pss_cons (ps_setLc (i := 1) (own := [("name", 8)]) rfl nd rfl rfl (sw_true rfl rfl rfl (by decide +kernel)) (pi_range1 (by rfl) mn.range (pa_cons (pe_ix ix_seq (pv 0) pe_int (fun _ _ => rfl)) pa_nil)) (blkOk_by (N := n_names_by_ways) (sc := defScope s_names_by_ways) (by decide +kernel)) (fun _ _ _ _ _ => (pg_name (i := 8) nd rfl (Or.inl rfl))) (fun _ _ _ _ _ => pts_nil) (fun _ _ _ _ _ => (pe_lst pa_nil)))
  (pss_cons (ps_for PassesOwn.never rfl (pi_seq (pe_ix ix_seq (pv 0) pe_int (fun _ _ => rfl))) (pg_tup rfl (pgs_cons (pg_name (i := 2) nd rfl (Or.inl rfl)) (pgs_cons (pg_name (i := 3) nd rfl (Or.inl rfl)) pgs_nil))) (pss_cons (ps_expr (pe_bm PySem.F.plainAttrs_list PySem.F.slot_list_append PySem.F.type_list_append mt_append (pe_ix ix_seq (pv 1) (pv 2) (fun _ _ => rfl)) (pa_cons (pv 3) pa_nil)))
  (pss_one (ps_expr (pe_bm PySem.F.plainAttrs_list PySem.F.slot_list_append PySem.F.type_list_append mt_append (pe_ix ix_seq (pv 1) (pv 3) (fun _ _ => rfl)) (pa_cons (pv 2) pa_nil))))))
  (pss_cons (ps_par (i := 4) (j := 5) rfl nd rfl rfl (by decide) rfl rfl (pa_cons (pe_lst pa_nil) (pa_cons pe_dnewK pa_nil)) (by rfl))
  (pss_cons (ps_for PassesOwn.never rfl (pi_range1 (by rfl) mn.range (pa_cons (pe_ix ix_seq (pv 0) pe_int (fun _ _ => rfl)) pa_nil)) (pg_name (i := 6) nd rfl (Or.inl rfl)) (pss_one (ps_if (pt_cmp (pc_dnotin hu1 (pv 6) (pv 5))) (pss_cons (ps_dput hu1 (pv 5) (pv 6) pe_bl rfl)
  (pss_cons (ps_set (i := 7) nd rfl (Or.inl rfl) (pe_lst (pa_cons (pe_tup (pa_cons (pv 6) (pa_cons pe_non pa_nil))) pa_nil)))
  (pss_one (ps_while PassesOwn.never (pt_cmpR (op_neD hu64) (pv 7) (pe_lst pa_nil) (nomark _)) (pss_cons (ps_asg (pe_bm0 PySem.F.plainAttrs_list PySem.F.slot_list_pop PySem.F.type_list_pop mt_pop (pv 7)) (pg_tup rfl (pgs_cons (pg_name (i := 8) nd rfl (Or.inl rfl)) (pgs_cons (pg_name (i := 9) nd rfl (Or.inl rfl)) pgs_nil))))
  (pss_cons (ps_expr (pe_bm PySem.F.plainAttrs_list PySem.F.slot_list_append PySem.F.type_list_append mt_append (pv 4) (pa_cons (pe_tup (pa_cons (pv 8) (pa_cons (pv 9) pa_nil))) pa_nil)))
  (pss_one (ps_for PassesOwn.never rfl (pi_seq (pe_ix ix_seq (pv 1) (pv 8) (fun _ _ => rfl))) (pg_name (i := 10) nd rfl (Or.inl rfl)) (pss_one (ps_if (pt_cmp (pc_dnotin hu1 (pv 10) (pv 5))) (pss_cons (ps_dput hu1 (pv 5) (pv 10) pe_bl rfl)
  (pss_one (ps_expr (pe_bm PySem.F.plainAttrs_list PySem.F.slot_list_append PySem.F.type_list_append mt_append (pv 7) (pa_cons (pe_tup (pa_cons (pv 10) (pa_cons (pv 8) pa_nil))) pa_nil))))) pss_nil)))))))))) pss_nil)))
  (pss_one (ps_ret (pv 4)))))))
/-! ### forest_counts: 0 web, 1 free, 2 used, 3 found, 4 name, 5 ahead, 6 whole, 7 taken, 8 size, 9 k, 10 x; level 2 -/
abbrev s_forest_counts : Stmt := topS 8
abbrev n_forest_counts : List Str := ["web", "free", "used", "found", "name", "ahead", "whole", "taken", "size", "k", "x"]
theorem sc_forest_counts : FnScope n_forest_counts ["web"] (defScope s_forest_counts) := ⟨rfl, rfl, rfl, by decide +kernel, rfl, by decide +kernel, by decide +kernel⟩
def rd_forest_counts (K : PySem.W.Frag) (sp_names_by_ways : Sp) (sp_polynomial_sum : Sp) (sp_polynomial_times : Sp) : TS :=
  (tSeq (tAsg (tLc (iRng1 (tCons (tOp (rIx K) (tVar 0) (tC (.int 0))) tNil)) (gName 4) tYes (tLst (tCons (tC (.int 1)) tNil)) [4]) (gName 1))
  (tSeq (tAsg (tLc (iRng1 (tCons (tOp (rIx K) (tVar 0) (tC (.int 0))) tNil)) (gName 4) tYes (tLst (tCons (tC (.int 0)) tNil)) [4]) (gName 2))
  (tSeq (tAsg (tLst (tCons (tC (.int 1)) tNil)) (gName 3))
  (tSeq (tFor (iSeq K (tRevL K (tCall sp_names_by_ways [] E0 (tCons (tVar 0) tNil)))) (gTup K 2 (gCons (gName 4) (gCons (gName 5) gNil)))
  (tSeq (tAsg (tCall sp_polynomial_sum [] E0 (tCons (tOp (rIx K) (tVar 1) (tVar 4)) (tCons (tOp (rAddQ K) (tLst (tCons (tC (.int 0)) tNil)) (tOp (rIx K) (tVar 2) (tVar 4))) (tCons (tC (.int 1)) tNil)))) (gName 6))
  (tIfS (tTest (tOp rIsNQ (tVar 5) (tC .non))) (tAsg (tCall sp_polynomial_times [] E0 (tCons (tVar 3) (tCons (tVar 6) tNil))) (gName 3)) (tSeq (tAsg (tCall sp_polynomial_times [] E0 (tCons (tOp (rIx K) (tVar 1) (tVar 5)) (tCons (tOp (rIx K) (tVar 1) (tVar 4)) tNil))) (gName 7))
  (tSeq (tAsg (tCall sp_polynomial_sum [] E0 (tCons (tCall sp_polynomial_times [] E0 (tCons (tOp (rIx K) (tVar 2) (tVar 5)) (tCons (tVar 6) tNil))) (tCons (tVar 7) (tCons (tC (.int 1)) tNil)))) (gSub (tVar 2) (tVar 5) rSetL))
  (tAsg (tCall sp_polynomial_times [] E0 (tCons (tOp (rIx K) (tVar 1) (tVar 5)) (tCons (tVar 6) tNil))) (gSub (tVar 1) (tVar 5) rSetL)))))))
  (tSeq (tAsg (tCB (rMax K) (tCons (tLc (iEnumQ K (tCons (tVar 3) tNil)) (gTup K 2 (gCons (gName 9) (gCons (gName 10) gNil))) (tTest (tOp (rNeD K) (tVar 10) (tC (.int 0)))) (tOp (rAddQ K) (tVar 9) (tC (.int 1))) [9, 10]) tNil)) (gName 8))
  (tRet (tSl (rSlQ K) (tVar 3) tNoPart (tPart (tVar 8)))))))))
theorem dv_forest_counts {P : Program} {w : World} {K : PySem.W.Frag} {mg : Str → Option Value} {base : Heap} (mn : Mn mg) {sp_names_by_ways : Sp} (c_names_by_ways : Cal P w K mg base 1 "names_by_ways" ["web"] sp_names_by_ways) {sp_polynomial_sum : Sp} (c_polynomial_sum : Cal P w K mg base 1 "polynomial_sum" ["one", "other", "times"] sp_polynomial_sum) {sp_polynomial_times : Sp} (c_polynomial_times : Cal P w K mg base 1 "polynomial_times" ["one", "other"] sp_polynomial_times) {f : Addr} {cdv : Value} {A : Around} {outer : List PySem.Env} {s : Shared} {H : Hp} {E : XK} (hr : Room 1 (A.deeper (PyProof.Rows.envOfC "forest_counts" (defScope s_forest_counts) s.heap.objs.size f cdv))) :
    PSs (cxOf CX0 P w K mg base n_forest_counts "forest_counts" (defScope s_forest_counts) f cdv A outer s H E).nox (defBody s_forest_counts) (rd_forest_counts K sp_names_by_ways sp_polynomial_sum sp_polynomial_times) := by
  have nd := sc_forest_counts.nd
  have hu64 := hr.units
  have hu65 := hr.units1
  have hu1 := hr.unit1
  exact (pss_cons (ps_setLc (i := 1) (own := [("name", 4)]) rfl nd rfl rfl (sw_true rfl rfl rfl (by decide +kernel)) (pi_range1 (by rfl) mn.range (pa_cons (pe_ix ix_seq (pv 0) pe_int (fun _ _ => rfl)) pa_nil)) (blkOk_by (N := n_forest_counts) (sc := defScope s_forest_counts) (by decide +kernel)) (fun _ _ _ _ _ => (pg_name (i := 4) nd rfl (Or.inl rfl))) (fun _ _ _ _ _ => pts_nil) (fun _ _ _ _ _ => (pe_lst (pa_cons pe_int pa_nil))))
  (pss_cons (ps_setLc (i := 2) (own := [("name", 4)]) rfl nd rfl rfl (sw_true rfl rfl rfl (by decide +kernel)) (pi_range1 (by rfl) mn.range (pa_cons (pe_ix ix_seq (pv 0) pe_int (fun _ _ => rfl)) pa_nil)) (blkOk_by (N := n_forest_counts) (sc := defScope s_forest_counts) (by decide +kernel)) (fun _ _ _ _ _ => (pg_name (i := 4) nd rfl (Or.inl rfl))) (fun _ _ _ _ _ => pts_nil) (fun _ _ _ _ _ => (pe_lst (pa_cons pe_int pa_nil))))
  (pss_cons (ps_set (i := 3) nd rfl (Or.inl rfl) (pe_lst (pa_cons pe_int pa_nil)))
  (pss_cons (ps_for PassesOwn.never rfl (pi_seq (pe_revL (Cal.pe c_names_by_ways (hr.mono (by decide)) (by rfl) (pa_cons (pv 0) pa_nil)))) (pg_tup rfl (pgs_cons (pg_name (i := 4) nd rfl (Or.inl rfl)) (pgs_cons (pg_name (i := 5) nd rfl (Or.inl rfl)) pgs_nil))) (pss_cons (ps_set (i := 6) nd rfl (Or.inl rfl) (Cal.pe c_polynomial_sum (hr.mono (by decide)) (by rfl) (pa_cons (pe_ix ix_seq (pv 1) (pv 4) (fun _ _ => rfl)) (pa_cons (pe_op op_addQ (pe_lst (pa_cons pe_int pa_nil)) (pe_ix ix_seq (pv 2) (pv 4) (fun _ _ => rfl))) (pa_cons pe_int pa_nil)))))
  (pss_one (ps_if (pt_cmpR op_isNQ (pv 5) pe_non (nomark _)) (pss_one (ps_set (i := 3) nd rfl (Or.inl rfl) (Cal.pe c_polynomial_times (hr.mono (by decide)) (by rfl) (pa_cons (pv 3) (pa_cons (pv 6) pa_nil))))) (pss_cons (ps_set (i := 7) nd rfl (Or.inl rfl) (Cal.pe c_polynomial_times (hr.mono (by decide)) (by rfl) (pa_cons (pe_ix ix_seq (pv 1) (pv 5) (fun _ _ => rfl)) (pa_cons (pe_ix ix_seq (pv 1) (pv 4) (fun _ _ => rfl)) pa_nil))))
  (pss_cons (ps_asg (Cal.pe c_polynomial_sum (hr.mono (by decide)) (by rfl) (pa_cons (Cal.pe c_polynomial_times (hr.mono (by decide)) (by rfl) (pa_cons (pe_ix ix_seq (pv 2) (pv 5) (fun _ _ => rfl)) (pa_cons (pv 6) pa_nil))) (pa_cons (pv 7) (pa_cons pe_int pa_nil)))) (pg_sub (pv 2) (pv 5) set_list))
  (pss_one (ps_asg (Cal.pe c_polynomial_times (hr.mono (by decide)) (by rfl) (pa_cons (pe_ix ix_seq (pv 1) (pv 5) (fun _ _ => rfl)) (pa_cons (pv 6) pa_nil))) (pg_sub (pv 1) (pv 5) set_list)))))))))
  (pss_cons (ps_set (i := 8) nd rfl (Or.inl rfl) (pe_callB (cr_max rfl) (by rfl) mn.max (by decide +kernel) (pa_cons (pe_lc (own := [("k", 9), ("x", 10)]) rfl nd (pi_enumQ (by rfl) mn.enumerate (pa_cons (pv 3) pa_nil)) (blkOk_by (N := n_forest_counts) (sc := defScope s_forest_counts) (by decide +kernel)) (fun _ _ _ _ _ => (pg_tup rfl (pgs_cons (pg_name (i := 9) nd rfl (Or.inl rfl)) (pgs_cons (pg_name (i := 10) nd rfl (Or.inl rfl)) pgs_nil)))) (fun _ _ _ _ _ => (pts_one (pt_cmpR (op_neD hu64) (pv 10) pe_int (nomark _)))) (fun _ _ _ _ _ => (pe_op op_addQ (pv 9) pe_int))) pa_nil)))
  (pss_one (ps_ret (pe_slice sl_q (pv 3) po_none (po_some (pv 8))))))))))
/-! ### pairing_counts: 0 web; level 3 -/
abbrev s_pairing_counts : Stmt := topS 9
abbrev n_pairing_counts : List Str := ["web"]
theorem sc_pairing_counts : FnScope n_pairing_counts ["web"] (defScope s_pairing_counts) := ⟨rfl, rfl, rfl, by decide +kernel, rfl, by decide +kernel, by decide +kernel⟩
def rd_pairing_counts (K : PySem.W.Frag) (sp_has_web_ring : Sp) (sp_forest_counts : Sp) (sp_counts_within : Sp) : TS :=
  (tSeq (tIfS (tNot (tB (tCall sp_has_web_ring [] E0 (tCons (tVar 0) tNil)))) (tRet (tCB (rTupleQ K) (tCons (tCall sp_forest_counts [] E0 (tCons (tVar 0) tNil)) tNil))) tNext)
  (tRet (tCB (rTupleQ K) (tCons (tCall sp_counts_within [] E0 (tCons (tLstRg (tRg1 (tOp (rIx K) (tVar 0) (tC (.int 0))))) (tCons (tOp (rIx K) (tVar 0) (tC (.int 1))) tNil))) tNil))))
theorem dv_pairing_counts {P : Program} {w : World} {K : PySem.W.Frag} {mg : Str → Option Value} {base : Heap} (mn : Mn mg) {sp_has_web_ring : Sp} (c_has_web_ring : Cal P w K mg base 1 "has_web_ring" ["web"] sp_has_web_ring) {sp_forest_counts : Sp} (c_forest_counts : Cal P w K mg base 2 "forest_counts" ["web"] sp_forest_counts) {sp_counts_within : Sp} (c_counts_within : Cal P w K mg base 2 "counts_within" ["names", "ties"] sp_counts_within) {f : Addr} {cdv : Value} {A : Around} {outer : List PySem.Env} {s : Shared} {H : Hp} {E : XK} (hr : Room 2 (A.deeper (PyProof.Rows.envOfC "pairing_counts" (defScope s_pairing_counts) s.heap.objs.size f cdv))) :
    PSs (cxOf CX0 P w K mg base n_pairing_counts "pairing_counts" (defScope s_pairing_counts) f cdv A outer s H E).nox (defBody s_pairing_counts) (rd_pairing_counts K sp_has_web_ring sp_forest_counts sp_counts_within) := by
  have nd := sc_pairing_counts.nd
  have hu64 := hr.units
  have hu65 := hr.units1
  have hu1 := hr.unit1
  exact (pss_cons (ps_if (pt_not (pt_val (Cal.pe c_has_web_ring (hr.mono (by decide)) (by rfl) (pa_cons (pv 0) pa_nil)))) (pss_one (ps_ret (pe_callTy call_tupleQ (by rfl) mn.tuple (by decide +kernel) (pa_cons (Cal.pe c_forest_counts (hr.mono (by decide)) (by rfl) (pa_cons (pv 0) pa_nil)) pa_nil)))) pss_nil)
  (pss_one (ps_ret (pe_callTy call_tupleQ (by rfl) mn.tuple (by decide +kernel) (pa_cons (Cal.pe c_counts_within (hr.mono (by decide)) (by rfl) (pa_cons (pe_listRg rfl (by rfl) mn.list (prg_1 (by rfl) mn.range (pe_ix ix_seq (pv 0) pe_int (fun _ _ => rfl)))) (pa_cons (pe_ix ix_seq (pv 0) pe_int (fun _ _ => rfl)) pa_nil))) pa_nil)))))
/-! ### most_pairs: 0 web; level 4 -/
abbrev s_most_pairs : Stmt := topS 10
abbrev n_most_pairs : List Str := ["web"]
theorem sc_most_pairs : FnScope n_most_pairs ["web"] (defScope s_most_pairs) := ⟨rfl, rfl, rfl, by decide +kernel, rfl, by decide +kernel, by decide +kernel⟩
def rd_most_pairs (K : PySem.W.Frag) (sp_pairing_counts : Sp) : TS :=
  (tRet (tOp (rI0 fun i j => .int (i - j)) (tCB (rLenQ K) (tCons (tCall sp_pairing_counts [] E0 (tCons (tVar 0) tNil)) tNil)) (tC (.int 1))))
theorem dv_most_pairs {P : Program} {w : World} {K : PySem.W.Frag} {mg : Str → Option Value} {base : Heap} (mn : Mn mg) {sp_pairing_counts : Sp} (c_pairing_counts : Cal P w K mg base 3 "pairing_counts" ["web"] sp_pairing_counts) {f : Addr} {cdv : Value} {A : Around} {outer : List PySem.Env} {s : Shared} {H : Hp} {E : XK} (hr : Room 3 (A.deeper (PyProof.Rows.envOfC "most_pairs" (defScope s_most_pairs) s.heap.objs.size f cdv))) :
    PSs (cxOf CX0 P w K mg base n_most_pairs "most_pairs" (defScope s_most_pairs) f cdv A outer s H E).nox (defBody s_most_pairs) (rd_most_pairs K sp_pairing_counts) := by
  have nd := sc_most_pairs.nd
  have hu64 := hr.units
  have hu65 := hr.units1
  have hu1 := hr.unit1
  exact (pss_one (ps_ret (pe_op op_sub (pe_callB call_lenQ (by rfl) mn.len PySem.boot_len (pa_cons (Cal.pe c_pairing_counts (hr.mono (by decide)) (by rfl) (pa_cons (pv 0) pa_nil)) pa_nil)) pe_int)))
/-! ### pairing_polynomial: 0 web, 1 found, 2 k, 3 many; level 4 -/
abbrev s_pairing_polynomial : Stmt := topS 11
abbrev n_pairing_polynomial : List Str := ["web", "found", "k", "many"]
theorem sc_pairing_polynomial : FnScope n_pairing_polynomial ["web"] (defScope s_pairing_polynomial) := ⟨rfl, rfl, rfl, by decide +kernel, rfl, by decide +kernel, by decide +kernel⟩
def rd_pairing_polynomial (K : PySem.W.Frag) (sp_pairing_counts : Sp) : TS :=
  (tSeq (tAsg (tOp rMulQ (tLst (tCons (tC (.int 0)) tNil)) (tOp (rAddQ K) (tOp (rIx K) (tVar 0) (tC (.int 0))) (tC (.int 1)))) (gName 1))
  (tSeq (tFor (iEnumQ K (tCons (tCall sp_pairing_counts [] E0 (tCons (tVar 0) tNil)) tNil)) (gTup K 2 (gCons (gName 2) (gCons (gName 3) gNil)))
  (tAsg (tOp rMulQ (tVar 3) (tOp (rI0 fun i j => .int (i - j)) (tC (.int 1)) (tOp rMulQ (tC (.int 2)) (tOp (rI (fun _ j => 0 < j) fun i j => .int (i % j)) (tVar 2) (tC (.int 2)))))) (gSub (tVar 1) (tOp (rI0 fun i j => .int (i - j)) (tOp (rIx K) (tVar 0) (tC (.int 0))) (tOp rMulQ (tC (.int 2)) (tVar 2))) rSetL)))
  (tRet (tCB (rTupleQ K) (tCons (tVar 1) tNil)))))
theorem dv_pairing_polynomial {P : Program} {w : World} {K : PySem.W.Frag} {mg : Str → Option Value} {base : Heap} (mn : Mn mg) {sp_pairing_counts : Sp} (c_pairing_counts : Cal P w K mg base 3 "pairing_counts" ["web"] sp_pairing_counts) {f : Addr} {cdv : Value} {A : Around} {outer : List PySem.Env} {s : Shared} {H : Hp} {E : XK} (hr : Room 3 (A.deeper (PyProof.Rows.envOfC "pairing_polynomial" (defScope s_pairing_polynomial) s.heap.objs.size f cdv))) :
    PSs (cxOf CX0 P w K mg base n_pairing_polynomial "pairing_polynomial" (defScope s_pairing_polynomial) f cdv A outer s H E).nox (defBody s_pairing_polynomial) (rd_pairing_polynomial K sp_pairing_counts) := by
  have nd := sc_pairing_polynomial.nd
  have hu64 := hr.units
  have hu65 := hr.units1
  have hu1 := hr.unit1
  exact (pss_cons (ps_set (i := 1) nd rfl (Or.inl rfl) (pe_op op_mulQ (pe_lst (pa_cons pe_int pa_nil)) (pe_op op_addQ (pe_ix ix_seq (pv 0) pe_int (fun _ _ => rfl)) pe_int)))
  (pss_cons (ps_for PassesOwn.never rfl (pi_enumQ (by rfl) mn.enumerate (pa_cons (Cal.pe c_pairing_counts (hr.mono (by decide)) (by rfl) (pa_cons (pv 0) pa_nil)) pa_nil)) (pg_tup rfl (pgs_cons (pg_name (i := 2) nd rfl (Or.inl rfl)) (pgs_cons (pg_name (i := 3) nd rfl (Or.inl rfl)) pgs_nil))) (pss_one (ps_asg (pe_op op_mulQ (pv 3) (pe_op op_sub pe_int (pe_op op_mulQ pe_int (pe_op op_mod (pv 2) pe_int)))) (pg_sub (pv 1) (pe_op op_sub (pe_ix ix_seq (pv 0) pe_int (fun _ _ => rfl)) (pe_op op_mulQ pe_int (pv 2))) set_list))))
  (pss_one (ps_ret (pe_callTy call_tupleQ (by rfl) mn.tuple (by decide +kernel) (pa_cons (pv 1) pa_nil))))))
/-! ### webs_beside: 0 one, 1 other, 2 n, 3 a, 4 b; level 1 -/
abbrev s_webs_beside : Stmt := topS 12
abbrev n_webs_beside : List Str := ["one", "other", "n", "a", "b"]
theorem sc_webs_beside : FnScope n_webs_beside ["one", "other"] (defScope s_webs_beside) := ⟨rfl, rfl, rfl, by decide +kernel, rfl, by decide +kernel, by decide +kernel⟩
def rd_webs_beside (K : PySem.W.Frag) : TS :=
  (tSeq (tAsg (tOp (rIx K) (tVar 0) (tC (.int 0))) (gName 2))
  (tRet (tTup (tCons (tOp (rAddQ K) (tVar 2) (tOp (rIx K) (tVar 1) (tC (.int 0)))) (tCons (tCB (rTupleQ K) (tCons (tCB (rSortedQ K) (tCons (tOp (rAddQ K) (tCB (rListQ K) (tCons (tOp (rIx K) (tVar 0) (tC (.int 1))) tNil)) (tLc (iSeq K (tOp (rIx K) (tVar 1) (tC (.int 1)))) (gTup K 2 (gCons (gName 3) (gCons (gName 4) gNil))) tYes (tTup (tCons (tOp (rAddQ K) (tVar 3) (tVar 2)) (tCons (tOp (rAddQ K) (tVar 4) (tVar 2)) tNil))) [3, 4])) tNil)) tNil)) tNil)))))
theorem dv_webs_beside {P : Program} {w : World} {K : PySem.W.Frag} {mg : Str → Option Value} {base : Heap} (mn : Mn mg) {f : Addr} {cdv : Value} {A : Around} {outer : List PySem.Env} {s : Shared} {H : Hp} {E : XK} (hr : Room 0 (A.deeper (PyProof.Rows.envOfC "webs_beside" (defScope s_webs_beside) s.heap.objs.size f cdv))) :
    PSs (cxOf CX0 P w K mg base n_webs_beside "webs_beside" (defScope s_webs_beside) f cdv A outer s H E).nox (defBody s_webs_beside) (rd_webs_beside K) := by
  have nd := sc_webs_beside.nd
  have hu64 := hr.units
  have hu65 := hr.units1
  have hu1 := hr.unit1
  exact (pss_cons (ps_set (i := 2) nd rfl (Or.inr rfl) (pe_ix ix_seq (pv 0) pe_int (fun _ _ => rfl)))
  (pss_one (ps_ret (pe_tup (pa_cons (pe_op op_addQ (pv 2) (pe_ix ix_seq (pv 1) pe_int (fun _ _ => rfl))) (pa_cons (pe_callTy call_tupleQ (by rfl) mn.tuple (by decide +kernel) (pa_cons (pe_callB cr_sortedQ (by rfl) mn.sorted (by decide +kernel) (pa_cons (pe_op op_addQ (pe_callTy call_listQ (by rfl) mn.list (by decide +kernel) (pa_cons (pe_ix ix_seq (pv 0) pe_int (fun _ _ => rfl)) pa_nil)) (pe_lc (own := [("a", 3), ("b", 4)]) rfl nd (pi_seq (pe_ix ix_seq (pv 1) pe_int (fun _ _ => rfl))) (blkOk_by (N := n_webs_beside) (sc := defScope s_webs_beside) (by decide +kernel)) (fun _ _ _ _ _ => (pg_tup rfl (pgs_cons (pg_name (i := 3) nd rfl (Or.inl rfl)) (pgs_cons (pg_name (i := 4) nd rfl (Or.inl rfl)) pgs_nil)))) (fun _ _ _ _ _ => pts_nil) (fun _ _ _ _ _ => (pe_tup (pa_cons (pe_op op_addQ (pv 3) (pv 2)) (pa_cons (pe_op op_addQ (pv 4) (pv 2)) pa_nil)))))) pa_nil)) pa_nil)) pa_nil))))))
/-! ### _law_open_cells: 0 script, 1 stirred, 2 cell, 3 cells; level 1 -/
abbrev s_law_open_cells : Stmt := topS 14
abbrev n_law_open_cells : List Str := ["script", "stirred", "cell", "cells"]
theorem sc_law_open_cells : FnScope n_law_open_cells ["script"] (defScope s_law_open_cells) := ⟨rfl, rfl, rfl, by decide +kernel, rfl, by decide +kernel, by decide +kernel⟩
def rd_law_open_cells (K : PySem.W.Frag) : TS :=
  (tSeq (tAsg (tC (.int 11)) (gName 1))
  (tSeq (tFor (iSeq K (tVar 0)) (gName 2)
  (tAsg (tOp (rI (fun _ j => 0 < j) fun i j => .int (i % j)) (tCB rIntQ (tCons (tOp (rAddQ K) (tOp (rAddQ K) (tOp rMulQ (tVar 1) (tC (.int 69069))) (tOp rMulQ (tVar 2) (tC (.int 31)))) (tC (.int 5))) tNil)) (tC (.int 2147483629))) (gName 1)))
  (tSeq (tAsg (tLc (iSeq K (tVar 0)) (gName 2) tYes (tCB rAbsQ (tCons (tVar 2) tNil)) [2]) (gName 3))
  (tRet (tDisp (((tC (.str "cells")), (tRevL K (tVar 3))) :: (((tC (.str "left")), (tC (.int 1))) :: (((tC (.str "mixed")), (tVar 1)) :: (((tC (.str "turn")), (tC (.int 0))) :: [])))))))))
theorem dv_law_open_cells {P : Program} {w : World} {K : PySem.W.Frag} {mg : Str → Option Value} {base : Heap} (mn : Mn mg) {f : Addr} {cdv : Value} {A : Around} {outer : List PySem.Env} {s : Shared} {H : Hp} {E : XK} (hr : Room 0 (A.deeper (PyProof.Rows.envOfC "_law_open_cells" (defScope s_law_open_cells) s.heap.objs.size f cdv))) :
    PSs (cxOf CX0 P w K mg base n_law_open_cells "_law_open_cells" (defScope s_law_open_cells) f cdv A outer s H E).nox (defBody s_law_open_cells) (rd_law_open_cells K) := by
  have nd := sc_law_open_cells.nd
  have hu64 := hr.units
  have hu65 := hr.units1
  have hu1 := hr.unit1
  exact (pss_cons (ps_set (i := 1) nd rfl (Or.inl rfl) pe_int)
  (pss_cons (ps_for PassesOwn.never rfl (pi_seq (pv 0)) (pg_name (i := 2) nd rfl (Or.inl rfl)) (pss_one (ps_set (i := 1) nd rfl (Or.inl rfl) (pe_op op_mod (pe_callTy call_intQ (by rfl) mn.int (by decide +kernel) (pa_cons (pe_op op_addQ (pe_op op_addQ (pe_op op_mulQ (pv 1) pe_int) (pe_op op_mulQ (pv 2) pe_int)) pe_int) pa_nil)) pe_int))))
  (pss_cons (ps_setLc (i := 3) (own := [("cell", 2)]) rfl nd rfl rfl (sw_true rfl rfl rfl (by decide +kernel)) (pi_seq (pv 0)) (blkOk_by (N := n_law_open_cells) (sc := defScope s_law_open_cells) (by decide +kernel)) (fun _ _ _ _ _ => (pg_name (i := 2) nd rfl (Or.inl rfl))) (fun _ _ _ _ _ => pts_nil) (fun _ _ _ _ _ => (pe_callB call_absQ (by rfl) mn.abs (by decide +kernel) (pa_cons (pv 2) pa_nil))))
  (pss_one (ps_ret (pe_disp (pps_cons pe_str (pe_revL (pv 3)) (pps_cons pe_str pe_int (pps_cons pe_str (pv 1) (pps_cons pe_str pe_int pps_nil)))) rfl rfl (by simp) (by decide)))))))
/-! ### _law_pick: 0 source, 1 most, 2 cells, 3 others, 4 lap, 5 stirred; level 1 -/
abbrev s_law_pick : Stmt := topS 15
abbrev n_law_pick : List Str := ["source", "most", "cells", "others", "lap", "stirred"]
theorem sc_law_pick : FnScope n_law_pick ["source", "most"] (defScope s_law_pick) := ⟨rfl, rfl, rfl, by decide +kernel, rfl, by decide +kernel, by decide +kernel⟩
def rd_law_pick (K : PySem.W.Frag) : TS :=
  (tSeq (tIfS (tTest (tOp (rI0 fun i j => .bl (decide (i < j))) (tVar 1) (tC (.int 2)))) (tRet (tC (.int 0))) tNext)
  (tSeq (tAsg (tDGet (tVar 0) (tC (.str "cells"))) (gName 2))
  (tSeq (tWhile (tAnd (tTest (tOp (rI0 fun i j => .bl (decide (i < j))) (tDGet (tVar 0) (tC (.str "left"))) (tC (.int 2)))) (tTest (tOp (rI0 fun i j => .bl (decide (j < i))) (tCB (rLenQ K) (tCons (tVar 2) tNil)) (tC (.int 0))))) (sDPut (tVar 0) (tC (.str "left")) (tBM0 K "list" rPop (tVar 2))))
  (tSeq (tAsg (tDGet (tVar 0) (tC (.str "left"))) (gName 3))
  (tSeq (tIfS (tTest (tOp (rI0 fun i j => .bl (decide (j < i))) (tVar 3) (tC (.int 1)))) (tSeq (sDPut (tVar 0) (tC (.str "left")) (tOp (rI CDivW fun i j => .int (i / j)) (tVar 3) (tVar 1)))
  (tRet (tOp (rI (fun _ j => 0 < j) fun i j => .int (i % j)) (tCB rIntQ (tCons (tVar 3) tNil)) (tVar 1)))) tNext)
  (tSeq (sDPut (tVar 0) (tC (.str "turn")) (tOp (rAddQ K) (tDGet (tVar 0) (tC (.str "turn"))) (tC (.int 1))))
  (tSeq (tAsg (tDGet (tVar 0) (tC (.str "turn"))) (gName 4))
  (tSeq (tAsg (tOp (rI (fun _ j => 0 < j) fun i j => .int (i % j)) (tCB rIntQ (tCons (tOp (rAddQ K) (tDGet (tVar 0) (tC (.str "mixed"))) (tOp rMulQ (tVar 4) (tC (.int 104729)))) tNil)) (tC (.int 998244353))) (gName 5))
  (tSeq (tAsg (tOp (rI (fun _ j => 0 < j) fun i j => .int (i % j)) (tCB rIntQ (tCons (tOp (rAddQ K) (tOp rMulQ (tVar 5) (tVar 5)) (tOp rMulQ (tVar 4) (tC (.int 17)))) tNil)) (tC (.int 2147483647))) (gName 5))
  (tRet (tOp (rI (fun _ j => 0 < j) fun i j => .int (i % j)) (tCB rIntQ (tCons (tOp (rI CDivW fun i j => .int (i / j)) (tVar 5) (tC (.int 16))) tNil)) (tVar 1))))))))))))
theorem dv_law_pick {P : Program} {w : World} {K : PySem.W.Frag} {mg : Str → Option Value} {base : Heap} (mn : Mn mg) {f : Addr} {cdv : Value} {A : Around} {outer : List PySem.Env} {s : Shared} {H : Hp} {E : XK} (hr : Room 0 (A.deeper (PyProof.Rows.envOfC "_law_pick" (defScope s_law_pick) s.heap.objs.size f cdv))) :
    PSs (cxOf CX0 P w K mg base n_law_pick "_law_pick" (defScope s_law_pick) f cdv A outer s H E).nox (defBody s_law_pick) (rd_law_pick K) := by
  have nd := sc_law_pick.nd
  have hu64 := hr.units
  have hu65 := hr.units1
  have hu1 := hr.unit1
  exact (pss_cons (ps_if (pt_cmpR op_lt (pv 1) pe_int (nomark _)) (pss_one (ps_ret pe_int)) pss_nil)
  (pss_cons (ps_set (i := 2) nd rfl (Or.inl rfl) (pe_dget hu1 (pv 0) pe_str (fun _ _ => rfl)))
  (pss_cons (ps_while PassesOwn.never (PW.pt (pw_and (pt_cmpR op_lt (pe_dget hu1 (pv 0) pe_str (fun _ _ => rfl)) pe_int (nomark _)) (pw_and1 (pt_cmpR op_gt (pe_callB call_lenQ (by rfl) mn.len PySem.boot_len (pa_cons (pv 2) pa_nil)) pe_int (nomark _))))) (pss_one (ps_dput hu1 (pv 0) pe_str (pe_bm0 PySem.F.plainAttrs_list PySem.F.slot_list_pop PySem.F.type_list_pop mt_pop (pv 2)) rfl)))
  (pss_cons (ps_set (i := 3) nd rfl (Or.inl rfl) (pe_dget hu1 (pv 0) pe_str (fun _ _ => rfl)))
  (pss_cons (ps_if (pt_cmpR op_gt (pv 3) pe_int (nomark _)) (pss_cons (ps_dput hu1 (pv 0) pe_str (pe_op op_fdivW (pv 3) (pv 1)) rfl)
  (pss_one (ps_ret (pe_op op_mod (pe_callTy call_intQ (by rfl) mn.int (by decide +kernel) (pa_cons (pv 3) pa_nil)) (pv 1))))) pss_nil)
  (pss_cons (ps_dput hu1 (pv 0) pe_str (pe_op op_addQ (pe_dget hu1 (pv 0) pe_str (fun _ _ => rfl)) pe_int) rfl)
  (pss_cons (ps_set (i := 4) nd rfl (Or.inl rfl) (pe_dget hu1 (pv 0) pe_str (fun _ _ => rfl)))
  (pss_cons (ps_set (i := 5) nd rfl (Or.inl rfl) (pe_op op_mod (pe_callTy call_intQ (by rfl) mn.int (by decide +kernel) (pa_cons (pe_op op_addQ (pe_dget hu1 (pv 0) pe_str (fun _ _ => rfl)) (pe_op op_mulQ (pv 4) pe_int)) pa_nil)) pe_int))
  (pss_cons (ps_set (i := 5) nd rfl (Or.inl rfl) (pe_op op_mod (pe_callTy call_intQ (by rfl) mn.int (by decide +kernel) (pa_cons (pe_op op_addQ (pe_op op_mulQ (pv 5) (pv 5)) (pe_op op_mulQ (pv 4) pe_int)) pa_nil)) pe_int))
  (pss_one (ps_ret (pe_op op_mod (pe_callTy call_intQ (by rfl) mn.int (by decide +kernel) (pa_cons (pe_op op_fdivW (pv 5) pe_int) pa_nil)) (pv 1)))))))))))))
/-! ### _law_web: 0 source, 1 n, 2 most, 3 ties, 4 a, 5 b; level 2 -/
abbrev s_law_web : Stmt := topS 16
abbrev n_law_web : List Str := ["source", "n", "most", "ties", "a", "b"]
theorem sc_law_web : FnScope n_law_web ["source", "n", "most"] (defScope s_law_web) := ⟨rfl, rfl, rfl, by decide +kernel, rfl, by decide +kernel, by decide +kernel⟩
def rd_law_web (K : PySem.W.Frag) (sp_law_pick : Sp) : TS :=
  (tSeq (tAsg (tLst tNil) (gName 3))
  (tSeq (tFor (iRng1 (tCons (tVar 1) tNil)) (gName 4)
  (tFor (iRng2 (tCons (tOp (rAddQ K) (tVar 4) (tC (.int 1))) (tCons (tVar 1) tNil))) (gName 5)
  (tIfS (tAnd (tTest (tOp (rI0 fun i j => .bl (decide (i < j))) (tCB (rLenQ K) (tCons (tVar 3) tNil)) (tVar 2))) (tTest (tOp (rEqD K) (tCall sp_law_pick [] E0 (tCons (tVar 0) (tCons (tC (.int 2)) tNil))) (tC (.int 0))))) (tDrop (tBM K "list" rAppend (tVar 3) (tCons (tTup (tCons (tVar 4) (tCons (tVar 5) tNil))) tNil))) tNext)))
  (tRet (tTup (tCons (tVar 1) (tCons (tCB (rTupleQ K) (tCons (tVar 3) tNil)) tNil))))))
theorem dv_law_web {P : Program} {w : World} {K : PySem.W.Frag} {mg : Str → Option Value} {base : Heap} (mn : Mn mg) {sp_law_pick : Sp} (c_law_pick : Cal P w K mg base 1 "_law_pick" ["source", "most"] sp_law_pick) {f : Addr} {cdv : Value} {A : Around} {outer : List PySem.Env} {s : Shared} {H : Hp} {E : XK} (hr : Room 1 (A.deeper (PyProof.Rows.envOfC "_law_web" (defScope s_law_web) s.heap.objs.size f cdv))) :
    PSs (cxOf CX0 P w K mg base n_law_web "_law_web" (defScope s_law_web) f cdv A outer s H E).nox (defBody s_law_web) (rd_law_web K sp_law_pick) := by
  have nd := sc_law_web.nd
  have hu64 := hr.units
  have hu65 := hr.units1
  have hu1 := hr.unit1
  exact (pss_cons (ps_set (i := 3) nd rfl (Or.inl rfl) (pe_lst pa_nil))
  (pss_cons (ps_for PassesOwn.never rfl (pi_range1 (by rfl) mn.range (pa_cons (pv 1) pa_nil)) (pg_name (i := 4) nd rfl (Or.inl rfl)) (pss_one (ps_for PassesOwn.never rfl (pi_range2 (by rfl) mn.range (pa_cons (pe_op op_addQ (pv 4) pe_int) (pa_cons (pv 1) pa_nil))) (pg_name (i := 5) nd rfl (Or.inl rfl)) (pss_one (ps_if (PW.pt (pw_and (pt_cmpR op_lt (pe_callB call_lenQ (by rfl) mn.len PySem.boot_len (pa_cons (pv 3) pa_nil)) (pv 2) (nomark _)) (pw_and1 (pt_cmpR (op_eqD hu64) (Cal.pe c_law_pick (hr.mono (by decide)) (by rfl) (pa_cons (pv 0) (pa_cons pe_int pa_nil))) pe_int (nomark _))))) (pss_one (ps_expr (pe_bm PySem.F.plainAttrs_list PySem.F.slot_list_append PySem.F.type_list_append mt_append (pv 3) (pa_cons (pe_tup (pa_cons (pv 4) (pa_cons (pv 5) pa_nil))) pa_nil)))) pss_nil)))))
  (pss_one (ps_ret (pe_tup (pa_cons (pv 1) (pa_cons (pe_callTy call_tupleQ (by rfl) mn.tuple (by decide +kernel) (pa_cons (pv 3) pa_nil)) pa_nil)))))))
/-! ### _law_counts: 0 n, 1 ties, 2 known, 3 key, 4 v, 5 found, 6 u, 7 rest, 8 late, 9 many, 10 one, 11 other, 12 tie, 13 a, 14 b, 15 x, 16 y; level 12 -/
abbrev s_law_counts : Stmt := topS 17
abbrev n_law_counts : List Str := ["n", "ties", "known", "key", "v", "found", "u", "rest", "late", "many", "one", "other", "tie", "a", "b", "x", "y"]
theorem sc_law_counts : FnScope n_law_counts ["n", "ties", "known"] (defScope s_law_counts) := ⟨rfl, rfl, rfl, by decide +kernel, rfl, by decide +kernel, by decide +kernel⟩
def rd_law_counts (K : PySem.W.Frag) (w : World) (sp_law_counts : Sp) : TS :=
  (tSeq (tAsg (tTup (tCons (tVar 0) (tCons (tVar 1) tNil))) (gName 3))
  (tSeq (tIfS (tB (tNNotIn K w (tVar 3) (tVar 2))) (tIfS (tOr (tTest (tOp (rEqD K) (tVar 0) (tC (.int 0)))) (tTest (tOp (rEqD K) (tVar 1) (tTup tNil)))) (sNPut K w (tVar 2) (tVar 3) (tLst (tCons (tC (.int 1)) tNil))) (tSeq (tAsg (tTup (tCons (tOp (rI0 fun i j => .int (i - j)) (tVar 0) (tC (.int 1))) (tCons (tCB (rListQ K) (tCons (tCall sp_law_counts [] E0 (tCons (tOp (rI0 fun i j => .int (i - j)) (tVar 0) (tC (.int 1))) (tCons (tCB (rTupleQ K) (tCons (tLc (iSeq K (tVar 1)) (gName 12) (tTest (tOp (rInQ K true) (tOp (rI0 fun i j => .int (i - j)) (tVar 0) (tC (.int 1))) (tVar 12))) (tVar 12) [12]) tNil)) (tCons (tVar 2) tNil)))) tNil)) tNil))) (gTup K 2 (gCons (gName 4) (gCons (gName 5) gNil))))
  (tSeq (tFor (iSeq K (tLc (iSeq K (tVar 1)) (gTup K 2 (gCons (gName 13) (gCons (gName 14) gNil))) (tTest (tOp (rEqD K) (tVar 14) (tVar 4))) (tVar 13) [13, 14])) (gName 6)
  (tSeq (tAsg (tCB (rTupleQ K) (tCons (tLc (iSeq K (tVar 1)) (gTup K 2 (gCons (gName 13) (gCons (gName 14) gNil))) (tAnd (tTest (tOp (rInQ K true) (tVar 6) (tTup (tCons (tVar 13) (tCons (tVar 14) tNil))))) (tTest (tOp (rInQ K true) (tVar 4) (tTup (tCons (tVar 13) (tCons (tVar 14) tNil)))))) (tTup (tCons (tOp (rI0 fun i j => .int (i - j)) (tVar 13) (tCB rIntQ (tCons (tOp (rI0 fun i j => .bl (decide (j < i))) (tVar 13) (tVar 6)) tNil))) (tCons (tOp (rI0 fun i j => .int (i - j)) (tVar 14) (tCB rIntQ (tCons (tOp (rI0 fun i j => .bl (decide (j < i))) (tVar 14) (tVar 6)) tNil))) tNil))) [13, 14]) tNil)) (gName 7))
  (tSeq (tAsg (tOp (rAddQ K) (tLst (tCons (tC (.int 0)) tNil)) (tCall sp_law_counts [] E0 (tCons (tOp (rI0 fun i j => .int (i - j)) (tVar 0) (tC (.int 2))) (tCons (tVar 7) (tCons (tVar 2) tNil))))) (gName 8))
  (tSeq (tAsg (tCB rMax2Q (tCons (tCB (rLenQ K) (tCons (tVar 5) tNil)) (tCons (tCB (rLenQ K) (tCons (tVar 8) tNil)) tNil))) (gName 9))
  (tSeq (tPar 10 11 (tCons (tOp (rAddQ K) (tVar 5) (tOp rMulQ (tLst (tCons (tC (.int 0)) tNil)) (tOp (rI0 fun i j => .int (i - j)) (tVar 9) (tCB (rLenQ K) (tCons (tVar 5) tNil))))) (tCons (tOp (rAddQ K) (tVar 8) (tOp rMulQ (tLst (tCons (tC (.int 0)) tNil)) (tOp (rI0 fun i j => .int (i - j)) (tVar 9) (tCB (rLenQ K) (tCons (tVar 8) tNil))))) tNil)))
  (tAsg (tLc (RZ.iZipA K (tCons (tVar 10) (tCons (tVar 11) tNil))) (gTup K 2 (gCons (gName 15) (gCons (gName 16) gNil))) tYes (tOp (rAddQ K) (tVar 15) (tVar 16)) [15, 16]) (gName 5)))))))
  (sNPut K w (tVar 2) (tVar 3) (tVar 5))))) tNext)
  (tRet (tNGet K w (tVar 2) (tVar 3)))))
theorem dv_law_counts {P : Program} {w : World} {K : PySem.W.Frag} {mg : Str → Option Value} {base : Heap} (mn : Mn mg) {kk : Nat} (hk : 0 ≤ kk) {sp_law_counts : Sp} (c_law_counts : Cal P w K mg base kk "_law_counts" ["n", "ties", "known"] sp_law_counts) {f : Addr} {cdv : Value} {A : Around} {outer : List PySem.Env} {s : Shared} {H : Hp} {E : XK} (hr : Room kk (A.deeper (PyProof.Rows.envOfC "_law_counts" (defScope s_law_counts) s.heap.objs.size f cdv))) :
    PSs (cxOf CX0 P w K mg base n_law_counts "_law_counts" (defScope s_law_counts) f cdv A outer s H E).nox (defBody s_law_counts) (rd_law_counts K w sp_law_counts) := by
  have nd := sc_law_counts.nd
  have hu64 := hr.units
  have hu65 := hr.units1
  have hu1 := hr.unit1
  exact (pss_cons (ps_set (i := 3) nd rfl (Or.inl rfl) (pe_tup (pa_cons (pv 0) (pa_cons (pv 1) pa_nil))))
  (pss_cons (ps_if (pt_cmp (pc_nnotin hu65 (pv 3) (pv 2))) (pss_one (ps_if (PW.pt (pw_or (pt_cmpR (op_eqD hu64) (pv 0) pe_int (nomark _)) (pw_or1 (pt_cmpR (op_eqD hu64) (pv 1) (pe_tup pa_nil) (nomark _))))) (pss_one (ps_nput hu65 (pv 2) (pv 3) (pe_lst (pa_cons pe_int pa_nil)) rfl)) (pss_cons (ps_asg (pe_tup (pa_cons (pe_op op_sub (pv 0) pe_int) (pa_cons (pe_callTy call_listQ (by rfl) mn.list (by decide +kernel) (pa_cons (Cal.pe c_law_counts (hr.mono (Nat.le_refl _)) (by rfl) (pa_cons (pe_op op_sub (pv 0) pe_int) (pa_cons (pe_callTy call_tupleQ (by rfl) mn.tuple (by decide +kernel) (pa_cons (pe_lc (own := [("tie", 12)]) rfl nd (pi_seq (pv 1)) (blkOk_by (N := n_law_counts) (sc := defScope s_law_counts) (by decide +kernel)) (fun _ _ _ _ _ => (pg_name (i := 12) nd rfl (Or.inl rfl))) (fun _ _ _ _ _ => (pts_one (pt_cmpR (op_notInQ hu65) (pe_op op_sub (pv 0) pe_int) (pv 12) (by rfl)))) (fun _ _ _ _ _ => (pv 12))) pa_nil)) (pa_cons (pv 2) pa_nil)))) pa_nil)) pa_nil))) (pg_tup rfl (pgs_cons (pg_name (i := 4) nd rfl (Or.inr rfl)) (pgs_cons (pg_name (i := 5) nd rfl (Or.inl rfl)) pgs_nil))))
  (pss_cons (ps_for PassesOwn.never rfl (pi_seq (pe_lc (own := [("a", 13), ("b", 14)]) rfl nd (pi_seq (pv 1)) (blkOk_by (N := n_law_counts) (sc := defScope s_law_counts) (by decide +kernel)) (fun _ _ _ _ _ => (pg_tup rfl (pgs_cons (pg_name (i := 13) nd rfl (Or.inl rfl)) (pgs_cons (pg_name (i := 14) nd rfl (Or.inl rfl)) pgs_nil)))) (fun _ _ _ _ _ => (pts_one (pt_cmpR (op_eqD hu64) (pv 14) (pv 4) (nomark _)))) (fun _ _ _ _ _ => (pv 13)))) (pg_name (i := 6) nd rfl (Or.inr rfl)) (pss_cons (ps_set (i := 7) nd rfl (Or.inl rfl) (pe_callTy call_tupleQ (by rfl) mn.tuple (by decide +kernel) (pa_cons (pe_lc (own := [("a", 13), ("b", 14)]) rfl nd (pi_seq (pv 1)) (blkOk_by (N := n_law_counts) (sc := defScope s_law_counts) (by decide +kernel)) (fun _ _ _ _ _ => (pg_tup rfl (pgs_cons (pg_name (i := 13) nd rfl (Or.inl rfl)) (pgs_cons (pg_name (i := 14) nd rfl (Or.inl rfl)) pgs_nil)))) (fun _ _ _ _ _ => (pts_one (PW.pt (pw_and (pt_cmpR (op_notInQ hu65) (pv 6) (pe_tup (pa_cons (pv 13) (pa_cons (pv 14) pa_nil))) (by rfl)) (pw_and1 (pt_cmpR (op_notInQ hu65) (pv 4) (pe_tup (pa_cons (pv 13) (pa_cons (pv 14) pa_nil))) (by rfl))))))) (fun _ _ _ _ _ => (pe_tup (pa_cons (pe_op op_sub (pv 13) (pe_callTy call_intQ (by rfl) mn.int (by decide +kernel) (pa_cons (pe_cmpR op_gt (pv 13) (pv 6) (nomark _)) pa_nil))) (pa_cons (pe_op op_sub (pv 14) (pe_callTy call_intQ (by rfl) mn.int (by decide +kernel) (pa_cons (pe_cmpR op_gt (pv 14) (pv 6) (nomark _)) pa_nil))) pa_nil))))) pa_nil)))
  (pss_cons (ps_set (i := 8) nd rfl (Or.inl rfl) (pe_op op_addQ (pe_lst (pa_cons pe_int pa_nil)) (Cal.pe c_law_counts (hr.mono (Nat.le_refl _)) (by rfl) (pa_cons (pe_op op_sub (pv 0) pe_int) (pa_cons (pv 7) (pa_cons (pv 2) pa_nil))))))
  (pss_cons (ps_set (i := 9) nd rfl (Or.inl rfl) (pe_callB (call_max2Q rfl) (by rfl) mn.max (by decide +kernel) (pa_cons (pe_callB call_lenQ (by rfl) mn.len PySem.boot_len (pa_cons (pv 5) pa_nil)) (pa_cons (pe_callB call_lenQ (by rfl) mn.len PySem.boot_len (pa_cons (pv 8) pa_nil)) pa_nil))))
  (pss_cons (ps_par (i := 10) (j := 11) rfl nd rfl rfl (by decide) rfl rfl (pa_cons (pe_op op_addQ (pv 5) (pe_op op_mulQ (pe_lst (pa_cons pe_int pa_nil)) (pe_op op_sub (pv 9) (pe_callB call_lenQ (by rfl) mn.len PySem.boot_len (pa_cons (pv 5) pa_nil))))) (pa_cons (pe_op op_addQ (pv 8) (pe_op op_mulQ (pe_lst (pa_cons pe_int pa_nil)) (pe_op op_sub (pv 9) (pe_callB call_lenQ (by rfl) mn.len PySem.boot_len (pa_cons (pv 8) pa_nil))))) pa_nil)) (by rfl))
  (pss_one (ps_setLc (i := 5) (own := [("x", 15), ("y", 16)]) rfl nd rfl rfl (sw_true rfl rfl rfl (by decide +kernel)) (RZ.pi_zipA (by rfl) mn.zip (pa_cons (pv 10) (pa_cons (pv 11) pa_nil))) (blkOk_by (N := n_law_counts) (sc := defScope s_law_counts) (by decide +kernel)) (fun _ _ _ _ _ => (pg_tup rfl (pgs_cons (pg_name (i := 15) nd rfl (Or.inl rfl)) (pgs_cons (pg_name (i := 16) nd rfl (Or.inl rfl)) pgs_nil)))) (fun _ _ _ _ _ => pts_nil) (fun _ _ _ _ _ => (pe_op op_addQ (pv 15) (pv 16))))))))))
  (pss_one (ps_nput hu65 (pv 2) (pv 3) (pv 5) rfl)))))) pss_nil)
  (pss_one (ps_ret (pe_nget hu65 (pv 2) (pv 3) (fun _ _ => rfl))))))
/-! ### _law_full: 0 n, 1 j, 2 found, 3 i; level 1 -/
abbrev s_law_full : Stmt := topS 18
abbrev n_law_full : List Str := ["n", "j", "found", "i"]
theorem sc_law_full : FnScope n_law_full ["n", "j"] (defScope s_law_full) := ⟨rfl, rfl, rfl, by decide +kernel, rfl, by decide +kernel, by decide +kernel⟩
def rd_law_full (K : PySem.W.Frag) : TS :=
  (tSeq (tAsg (tC (.int 1)) (gName 2))
  (tSeq (tFor (iRng1 (tCons (tVar 1) tNil)) (gName 3)
  (tAsg (tOp (rI CDivW fun i j => .int (i / j)) (tOp rMulQ (tOp rMulQ (tVar 2) (tOp (rI0 fun i j => .int (i - j)) (tVar 0) (tOp rMulQ (tC (.int 2)) (tVar 3)))) (tOp (rI0 fun i j => .int (i - j)) (tOp (rI0 fun i j => .int (i - j)) (tVar 0) (tOp rMulQ (tC (.int 2)) (tVar 3))) (tC (.int 1)))) (tC (.int 2))) (gName 2)))
  (tSeq (tFor (iRng1 (tCons (tVar 1) tNil)) (gName 3)
  (tAsg (tOp (rI CDivW fun i j => .int (i / j)) (tVar 2) (tOp (rAddQ K) (tVar 3) (tC (.int 1)))) (gName 2)))
  (tRet (tVar 2)))))
theorem dv_law_full {P : Program} {w : World} {K : PySem.W.Frag} {mg : Str → Option Value} {base : Heap} (mn : Mn mg) {f : Addr} {cdv : Value} {A : Around} {outer : List PySem.Env} {s : Shared} {H : Hp} {E : XK} (hr : Room 0 (A.deeper (PyProof.Rows.envOfC "_law_full" (defScope s_law_full) s.heap.objs.size f cdv))) :
    PSs (cxOf CX0 P w K mg base n_law_full "_law_full" (defScope s_law_full) f cdv A outer s H E).nox (defBody s_law_full) (rd_law_full K) := by
  have nd := sc_law_full.nd
  have hu64 := hr.units
  have hu65 := hr.units1
  have hu1 := hr.unit1
  exact (pss_cons (ps_set (i := 2) nd rfl (Or.inl rfl) pe_int)
  (pss_cons (ps_for PassesOwn.never rfl (pi_range1 (by rfl) mn.range (pa_cons (pv 1) pa_nil)) (pg_name (i := 3) nd rfl (Or.inl rfl)) (pss_one (ps_set (i := 2) nd rfl (Or.inl rfl) (pe_op op_fdivW (pe_op op_mulQ (pe_op op_mulQ (pv 2) (pe_op op_sub (pv 0) (pe_op op_mulQ pe_int (pv 3)))) (pe_op op_sub (pe_op op_sub (pv 0) (pe_op op_mulQ pe_int (pv 3))) pe_int)) pe_int))))
  (pss_cons (ps_for PassesOwn.never rfl (pi_range1 (by rfl) mn.range (pa_cons (pv 1) pa_nil)) (pg_name (i := 3) nd rfl (Or.inl rfl)) (pss_one (ps_set (i := 2) nd rfl (Or.inl rfl) (pe_op op_fdivW (pv 2) (pe_op op_addQ (pv 3) pe_int)))))
  (pss_one (ps_ret (pv 2))))))
/-! ### _law_product: 0 one, 1 other, 2 found, 3 i, 4 x, 5 j, 6 y; level 1 -/
abbrev s_law_product : Stmt := topS 19
abbrev n_law_product : List Str := ["one", "other", "found", "i", "x", "j", "y"]
theorem sc_law_product : FnScope n_law_product ["one", "other"] (defScope s_law_product) := ⟨rfl, rfl, rfl, by decide +kernel, rfl, by decide +kernel, by decide +kernel⟩
def rd_law_product (K : PySem.W.Frag) : TS :=
  (tSeq (tAsg (tOp rMulQ (tLst (tCons (tC (.int 0)) tNil)) (tOp (rI0 fun i j => .int (i - j)) (tOp (rAddQ K) (tCB (rLenQ K) (tCons (tVar 0) tNil)) (tCB (rLenQ K) (tCons (tVar 1) tNil))) (tC (.int 1)))) (gName 2))
  (tSeq (tFor (iEnumQ K (tCons (tVar 0) tNil)) (gTup K 2 (gCons (gName 3) (gCons (gName 4) gNil)))
  (tFor (iEnumQ K (tCons (tVar 1) tNil)) (gTup K 2 (gCons (gName 5) (gCons (gName 6) gNil)))
  (tAsg (tOp (rAddQ K) (tOp (rIx K) (tVar 2) (tOp (rAddQ K) (tVar 3) (tVar 5))) (tOp rMulQ (tVar 4) (tVar 6))) (gSub (tVar 2) (tOp (rAddQ K) (tVar 3) (tVar 5)) rSetL))))
  (tRet (tVar 2))))
theorem dv_law_product {P : Program} {w : World} {K : PySem.W.Frag} {mg : Str → Option Value} {base : Heap} (mn : Mn mg) {f : Addr} {cdv : Value} {A : Around} {outer : List PySem.Env} {s : Shared} {H : Hp} {E : XK} (hr : Room 0 (A.deeper (PyProof.Rows.envOfC "_law_product" (defScope s_law_product) s.heap.objs.size f cdv))) :
    PSs (cxOf CX0 P w K mg base n_law_product "_law_product" (defScope s_law_product) f cdv A outer s H E).nox (defBody s_law_product) (rd_law_product K) := by
  have nd := sc_law_product.nd
  have hu64 := hr.units
  have hu65 := hr.units1
  have hu1 := hr.unit1
  exact (pss_cons (ps_set (i := 2) nd rfl (Or.inl rfl) (pe_op op_mulQ (pe_lst (pa_cons pe_int pa_nil)) (pe_op op_sub (pe_op op_addQ (pe_callB call_lenQ (by rfl) mn.len PySem.boot_len (pa_cons (pv 0) pa_nil)) (pe_callB call_lenQ (by rfl) mn.len PySem.boot_len (pa_cons (pv 1) pa_nil))) pe_int)))
  (pss_cons (ps_for PassesOwn.never rfl (pi_enumQ (by rfl) mn.enumerate (pa_cons (pv 0) pa_nil)) (pg_tup rfl (pgs_cons (pg_name (i := 3) nd rfl (Or.inl rfl)) (pgs_cons (pg_name (i := 4) nd rfl (Or.inl rfl)) pgs_nil))) (pss_one (ps_for PassesOwn.never rfl (pi_enumQ (by rfl) mn.enumerate (pa_cons (pv 1) pa_nil)) (pg_tup rfl (pgs_cons (pg_name (i := 5) nd rfl (Or.inl rfl)) (pgs_cons (pg_name (i := 6) nd rfl (Or.inl rfl)) pgs_nil))) (pss_one (ps_asg (pe_op op_addQ (pe_ix ix_seq (pv 2) (pe_op op_addQ (pv 3) (pv 5)) (fun _ _ => rfl)) (pe_op op_mulQ (pv 4) (pv 6))) (pg_sub (pv 2) (pe_op op_addQ (pv 3) (pv 5)) set_list))))))
  (pss_one (ps_ret (pv 2)))))
/-! ### law: 0 script, 1 source, 2 lap, 3 n, 4 web, 5 every, 6 a, 7 rest, 8 counts, 9 due, 10 k, 11 total, 12 i, 13 row, 14 many, 15 cone, 16 late, 17 more, 18 other, 19 b, 20 tie, 21 x, 22 y; level 13 -/
abbrev s_law : Stmt := topS 20
abbrev n_law : List Str := ["script", "source", "lap", "n", "web", "every", "a", "rest", "counts", "due", "k", "total", "i", "row", "many", "cone", "late", "more", "other", "b", "tie", "x", "y"]
theorem sc_law : FnScope n_law ["script"] (defScope s_law) := ⟨rfl, rfl, rfl, by decide +kernel, rfl, by decide +kernel, by decide +kernel⟩
def rd_law (K : PySem.W.Frag) (w : World) (sp_law_open_cells : Sp) (sp_law_pick : Sp) (sp_law_web : Sp) (sp_law_counts : Sp) (sp_pairing_counts : Sp) (sp_most_pairs : Sp) (sp_law_full : Sp) (sp_pairing_polynomial : Sp) (sp_webs_beside : Sp) (sp_law_product : Sp) : TS :=
  (tSeq (tAsg (tCall sp_law_open_cells [] E0 (tCons (tVar 0) tNil)) (gName 1))
  (tSeq (tFor (iRng1 (tCons (tC (.int 3)) tNil)) (gName 2)
  (tSeq (tAsg (tCall sp_law_pick [] E0 (tCons (tVar 1) (tCons (tC (.int 10)) tNil))) (gName 3))
  (tSeq (tAsg (tCall sp_law_web [] E0 (tCons (tVar 1) (tCons (tVar 3) (tCons (tOp (rIx K) (tLst (tCons (tC (.int 4)) (tCons (tC (.int 12)) (tCons (tC (.int 36)) tNil)))) (tCall sp_law_pick [] E0 (tCons (tVar 1) (tCons (tC (.int 3)) tNil)))) tNil)))) (gName 4))
  (tSeq (tAsg (tLst tNil) (gName 5))
  (tSeq (tFor (iRng1 (tCons (tVar 3) tNil)) (gName 6)
  (tAsg (tOp (rAddQ K) (tVar 5) (tLc (iRng2 (tCons (tOp (rAddQ K) (tVar 6) (tC (.int 1))) (tCons (tVar 3) tNil))) (gName 19) tYes (tTup (tCons (tVar 6) (tCons (tVar 19) tNil))) [19])) (gName 5)))
  (tSeq (tAsg (tTup (tCons (tVar 3) (tCons (tCB (rTupleQ K) (tCons (tLc (iSeq K (tVar 5)) (gName 20) (tTest (tOp (rInQ K true) (tVar 20) (tOp (rIx K) (tVar 4) (tC (.int 1))))) (tVar 20) [20]) tNil)) tNil))) (gName 7))
  (tSeq (tAsg (tCall sp_law_counts [] E0 (tCons (tVar 3) (tCons (tOp (rIx K) (tVar 4) (tC (.int 1))) (tCons (tNNew w) tNil)))) (gName 8))
  (tSeq (tIfS (tOr (tTest (tOp (rNeD K) (tCB (rListQ K) (tCons (tCall sp_pairing_counts [] E0 (tCons (tVar 4) tNil)) tNil)) (tVar 8))) (tTest (tOp (rNeD K) (tCall sp_most_pairs [] E0 (tCons (tVar 4) tNil)) (tOp (rI0 fun i j => .int (i - j)) (tCB (rLenQ K) (tCons (tVar 8) tNil)) (tC (.int 1)))))) (tRet (tC (.bl false))) tNext)
  (tSeq (tAsg (tLst tNil) (gName 9))
  (tSeq (tFor (iRng1 (tCons (tOp (rAddQ K) (tOp (rI CDivW fun i j => .int (i / j)) (tVar 3) (tC (.int 2))) (tC (.int 1))) tNil)) (gName 10)
  (tSeq (tAsg (tC (.int 0)) (gName 11))
  (tSeq (tFor (iRng1 (tCons (tCB rMin2Q (tCons (tOp (rAddQ K) (tVar 10) (tC (.int 1))) (tCons (tCB (rLenQ K) (tCons (tVar 8) tNil)) tNil))) tNil)) (gName 12)
  (tAsg (tOp (rAddQ K) (tVar 11) (tOp rMulQ (tOp rMulQ (tIf (tTest (tOp (rEqD K) (tOp (rI (fun _ j => 0 < j) fun i j => .int (i % j)) (tCB rIntQ (tCons (tVar 12) tNil)) (tC (.int 2))) (tC (.int 0)))) (tC (.int 1)) (tOp (rI0 fun i j => .int (i - j)) (tC (.int 0)) (tC (.int 1)))) (tOp (rIx K) (tVar 8) (tVar 12))) (tCall sp_law_full [] E0 (tCons (tOp (rI0 fun i j => .int (i - j)) (tVar 3) (tOp rMulQ (tC (.int 2)) (tVar 12))) (tCons (tOp (rI0 fun i j => .int (i - j)) (tVar 10) (tVar 12)) tNil))))) (gName 11)))
  (tDrop (tBM K "list" rAppend (tVar 9) (tCons (tVar 11) tNil))))))
  (tSeq (tWhile (tAnd (tTest (tOp (rI0 fun i j => .bl (decide (j < i))) (tCB (rLenQ K) (tCons (tVar 9) tNil)) (tC (.int 1)))) (tTest (tOp (rEqD K) (tOp (rIx K) (tVar 9) (tUn (rU fun i => .int (-i)) (tC (.int 1)))) (tC (.int 0))))) (tDrop (tBM0 K "list" rPop (tVar 9))))
  (tSeq (tIfS (tTest (tOp (rNeD K) (tCB (rListQ K) (tCons (tCall sp_pairing_counts [] E0 (tCons (tVar 7) tNil)) tNil)) (tVar 9))) (tRet (tC (.bl false))) tNext)
  (tSeq (tAsg (tOp rMulQ (tLst (tCons (tC (.int 0)) tNil)) (tOp (rAddQ K) (tVar 3) (tC (.int 1)))) (gName 13))
  (tSeq (tFor (iEnumQ K (tCons (tVar 8) tNil)) (gTup K 2 (gCons (gName 10) (gCons (gName 14) gNil)))
  (tAsg (tIf (tTest (tOp (rEqD K) (tOp (rI (fun _ j => 0 < j) fun i j => .int (i % j)) (tCB rIntQ (tCons (tVar 10) tNil)) (tC (.int 2))) (tC (.int 0)))) (tVar 14) (tOp (rI0 fun i j => .int (i - j)) (tC (.int 0)) (tVar 14))) (gSub (tVar 13) (tOp (rI0 fun i j => .int (i - j)) (tVar 3) (tOp rMulQ (tC (.int 2)) (tVar 10))) rSetL)))
  (tSeq (tIfS (tTest (tOp (rNeD K) (tCall sp_pairing_polynomial [] E0 (tCons (tVar 4) tNil)) (tCB (rTupleQ K) (tCons (tVar 13) tNil)))) (tRet (tC (.bl false))) tNext)
  (tSeq (tIfS (tTest (tOp (rI0 fun i j => .bl (decide (i < j))) (tVar 3) (tC (.int 9)))) (tSeq (tAsg (tTup (tCons (tOp (rAddQ K) (tVar 3) (tC (.int 1))) (tCons (tCB (rTupleQ K) (tCons (tCB (rSortedQ K) (tCons (tOp (rAddQ K) (tCB (rListQ K) (tCons (tOp (rIx K) (tVar 4) (tC (.int 1))) tNil)) (tLc (iRng1 (tCons (tVar 3) tNil)) (gName 6) tYes (tTup (tCons (tVar 6) (tCons (tVar 3) tNil))) [6])) tNil)) tNil)) tNil))) (gName 15))
  (tSeq (tPar 16 17 (tCons (tOp (rAddQ K) (tVar 8) (tLst (tCons (tC (.int 0)) tNil))) (tCons (tLst (tCons (tC (.int 0)) tNil)) tNil)))
  (tSeq (tFor (iEnumQ K (tCons (tVar 8) tNil)) (gTup K 2 (gCons (gName 10) (gCons (gName 14) gNil)))
  (tDrop (tBM K "list" rAppend (tVar 17) (tCons (tOp rMulQ (tVar 14) (tOp (rI0 fun i j => .int (i - j)) (tVar 3) (tOp rMulQ (tC (.int 2)) (tVar 10)))) tNil))))
  (tSeq (tAsg (tLc (RZ.iZipA K (tCons (tVar 16) (tCons (tVar 17) tNil))) (gTup K 2 (gCons (gName 21) (gCons (gName 22) gNil))) tYes (tOp (rAddQ K) (tVar 21) (tVar 22)) [21, 22]) (gName 9))
  (tSeq (tWhile (tAnd (tTest (tOp (rI0 fun i j => .bl (decide (j < i))) (tCB (rLenQ K) (tCons (tVar 9) tNil)) (tC (.int 1)))) (tTest (tOp (rEqD K) (tOp (rIx K) (tVar 9) (tUn (rU fun i => .int (-i)) (tC (.int 1)))) (tC (.int 0))))) (tDrop (tBM0 K "list" rPop (tVar 9))))
  (tIfS (tTest (tOp (rNeD K) (tCB (rListQ K) (tCons (tCall sp_pairing_counts [] E0 (tCons (tVar 15) tNil)) tNil)) (tVar 9))) (tRet (tC (.bl false))) tNext)))))) tNext)
  (tSeq (tAsg (tCall sp_law_web [] E0 (tCons (tVar 1) (tCons (tCall sp_law_pick [] E0 (tCons (tVar 1) (tCons (tOp (rI0 fun i j => .int (i - j)) (tC (.int 10)) (tVar 3)) tNil))) (tCons (tC (.int 12)) tNil)))) (gName 18))
  (tIfS (tTest (tOp (rNeD K) (tCB (rListQ K) (tCons (tCall sp_pairing_counts [] E0 (tCons (tCall sp_webs_beside [] E0 (tCons (tVar 4) (tCons (tVar 18) tNil))) tNil)) tNil)) (tCB (rListQ K) (tCons (tCall sp_law_product [] E0 (tCons (tVar 8) (tCons (tCall sp_law_counts [] E0 (tCons (tOp (rIx K) (tVar 18) (tC (.int 0))) (tCons (tOp (rIx K) (tVar 18) (tC (.int 1))) (tCons (tNNew w) tNil)))) tNil))) tNil)))) (tRet (tC (.bl false))) tNext))))))))))))))))))
  (tRet (tC (.bl true)))))
theorem dv_law {P : Program} {w : World} {K : PySem.W.Frag} {mg : Str → Option Value} {base : Heap} (mn : Mn mg) {sp_law_open_cells : Sp} (c_law_open_cells : Cal P w K mg base 1 "_law_open_cells" ["script"] sp_law_open_cells) {sp_law_pick : Sp} (c_law_pick : Cal P w K mg base 1 "_law_pick" ["source", "most"] sp_law_pick) {sp_law_web : Sp} (c_law_web : Cal P w K mg base 2 "_law_web" ["source", "n", "most"] sp_law_web) {sp_law_counts : Sp} (c_law_counts : Cal P w K mg base 12 "_law_counts" ["n", "ties", "known"] sp_law_counts) {sp_pairing_counts : Sp} (c_pairing_counts : Cal P w K mg base 3 "pairing_counts" ["web"] sp_pairing_counts) {sp_most_pairs : Sp} (c_most_pairs : Cal P w K mg base 4 "most_pairs" ["web"] sp_most_pairs) {sp_law_full : Sp} (c_law_full : Cal P w K mg base 1 "_law_full" ["n", "j"] sp_law_full) {sp_pairing_polynomial : Sp} (c_pairing_polynomial : Cal P w K mg base 4 "pairing_polynomial" ["web"] sp_pairing_polynomial) {sp_webs_beside : Sp} (c_webs_beside : Cal P w K mg base 1 "webs_beside" ["one", "other"] sp_webs_beside) {sp_law_product : Sp} (c_law_product : Cal P w K mg base 1 "_law_product" ["one", "other"] sp_law_product) {f : Addr} {cdv : Value} {A : Around} {outer : List PySem.Env} {s : Shared} {H : Hp} {E : XK} (hr : Room 12 (A.deeper (PyProof.Rows.envOfC "law" (defScope s_law) s.heap.objs.size f cdv))) :
    PSs (cxOf CX0 P w K mg base n_law "law" (defScope s_law) f cdv A outer s H E).nox (defBody s_law) (rd_law K w sp_law_open_cells sp_law_pick sp_law_web sp_law_counts sp_pairing_counts sp_most_pairs sp_law_full sp_pairing_polynomial sp_webs_beside sp_law_product) := by
  have nd := sc_law.nd
  have hu64 := hr.units
  have hu65 := hr.units1
  have hu1 := hr.unit1
  exact (pss_cons (ps_set (i := 1) nd rfl (Or.inl rfl) (Cal.pe c_law_open_cells (hr.mono (by decide)) (by rfl) (pa_cons (pv 0) pa_nil)))
  (pss_cons (ps_for PassesOwn.never rfl (pi_range1 (by rfl) mn.range (pa_cons pe_int pa_nil)) (pg_name (i := 2) nd rfl (Or.inl rfl)) (pss_cons (ps_set (i := 3) nd rfl (Or.inr rfl) (Cal.pe c_law_pick (hr.mono (by decide)) (by rfl) (pa_cons (pv 1) (pa_cons pe_int pa_nil))))
  (pss_cons (ps_set (i := 4) nd rfl (Or.inr rfl) (Cal.pe c_law_web (hr.mono (by decide)) (by rfl) (pa_cons (pv 1) (pa_cons (pv 3) (pa_cons (pe_ix ix_seq (pe_lst (pa_cons pe_int (pa_cons pe_int (pa_cons pe_int pa_nil)))) (Cal.pe c_law_pick (hr.mono (by decide)) (by rfl) (pa_cons (pv 1) (pa_cons pe_int pa_nil))) (fun _ _ => rfl)) pa_nil)))))
  (pss_cons (ps_set (i := 5) nd rfl (Or.inl rfl) (pe_lst pa_nil))
  (pss_cons (ps_for PassesOwn.never rfl (pi_range1 (by rfl) mn.range (pa_cons (pv 3) pa_nil)) (pg_name (i := 6) nd rfl (Or.inr rfl)) (pss_one (ps_set (i := 5) nd rfl (Or.inl rfl) (pe_op op_addQ (pv 5) (pe_lc (own := [("b", 19)]) rfl nd (pi_range2 (by rfl) mn.range (pa_cons (pe_op op_addQ (pv 6) pe_int) (pa_cons (pv 3) pa_nil))) (blkOk_by (N := n_law) (sc := defScope s_law) (by decide +kernel)) (fun _ _ _ _ _ => (pg_name (i := 19) nd rfl (Or.inl rfl))) (fun _ _ _ _ _ => pts_nil) (fun _ _ _ _ _ => (pe_tup (pa_cons (pv 6) (pa_cons (pv 19) pa_nil)))))))))
  (pss_cons (ps_set (i := 7) nd rfl (Or.inl rfl) (pe_tup (pa_cons (pv 3) (pa_cons (pe_callTy call_tupleQ (by rfl) mn.tuple (by decide +kernel) (pa_cons (pe_lc (own := [("tie", 20)]) rfl nd (pi_seq (pv 5)) (blkOk_by (N := n_law) (sc := defScope s_law) (by decide +kernel)) (fun _ _ _ _ _ => (pg_name (i := 20) nd rfl (Or.inl rfl))) (fun _ _ _ _ _ => (pts_one (pt_cmpR (op_notInQ hu65) (pv 20) (pe_ix ix_seq (pv 4) pe_int (fun _ _ => rfl)) (by rfl)))) (fun _ _ _ _ _ => (pv 20))) pa_nil)) pa_nil))))
  (pss_cons (ps_set (i := 8) nd rfl (Or.inl rfl) (Cal.pe c_law_counts (hr.mono (by decide)) (by rfl) (pa_cons (pv 3) (pa_cons (pe_ix ix_seq (pv 4) pe_int (fun _ _ => rfl)) (pa_cons pe_nnew pa_nil)))))
  (pss_cons (ps_if (PW.pt (pw_or (pt_cmpR (op_neD hu64) (pe_callTy call_listQ (by rfl) mn.list (by decide +kernel) (pa_cons (Cal.pe c_pairing_counts (hr.mono (by decide)) (by rfl) (pa_cons (pv 4) pa_nil)) pa_nil)) (pv 8) (nomark _)) (pw_or1 (pt_cmpR (op_neD hu64) (Cal.pe c_most_pairs (hr.mono (by decide)) (by rfl) (pa_cons (pv 4) pa_nil)) (pe_op op_sub (pe_callB call_lenQ (by rfl) mn.len PySem.boot_len (pa_cons (pv 8) pa_nil)) pe_int) (nomark _))))) (pss_one (ps_ret pe_bl)) pss_nil)
  (pss_cons (ps_set (i := 9) nd rfl (Or.inl rfl) (pe_lst pa_nil))
  (pss_cons (ps_for PassesOwn.never rfl (pi_range1 (by rfl) mn.range (pa_cons (pe_op op_addQ (pe_op op_fdivW (pv 3) pe_int) pe_int) pa_nil)) (pg_name (i := 10) nd rfl (Or.inl rfl)) (pss_cons (ps_set (i := 11) nd rfl (Or.inl rfl) pe_int)
  (pss_cons (ps_for PassesOwn.never rfl (pi_range1 (by rfl) mn.range (pa_cons (pe_callB (call_min2Q rfl) (by rfl) mn.min (by decide +kernel) (pa_cons (pe_op op_addQ (pv 10) pe_int) (pa_cons (pe_callB call_lenQ (by rfl) mn.len PySem.boot_len (pa_cons (pv 8) pa_nil)) pa_nil))) pa_nil)) (pg_name (i := 12) nd rfl (Or.inl rfl)) (pss_one (ps_set (i := 11) nd rfl (Or.inl rfl) (pe_op op_addQ (pv 11) (pe_op op_mulQ (pe_op op_mulQ (pe_ifExp (pt_cmpR (op_eqD hu64) (pe_op op_mod (pe_callTy call_intQ (by rfl) mn.int (by decide +kernel) (pa_cons (pv 12) pa_nil)) pe_int) pe_int (nomark _)) pe_int (pe_op op_sub pe_int pe_int)) (pe_ix ix_seq (pv 8) (pv 12) (fun _ _ => rfl))) (Cal.pe c_law_full (hr.mono (by decide)) (by rfl) (pa_cons (pe_op op_sub (pv 3) (pe_op op_mulQ pe_int (pv 12))) (pa_cons (pe_op op_sub (pv 10) (pv 12)) pa_nil))))))))
  (pss_one (ps_expr (pe_bm PySem.F.plainAttrs_list PySem.F.slot_list_append PySem.F.type_list_append mt_append (pv 9) (pa_cons (pv 11) pa_nil)))))))
  (pss_cons (ps_while PassesOwn.never (PW.pt (pw_and (pt_cmpR op_gt (pe_callB call_lenQ (by rfl) mn.len PySem.boot_len (pa_cons (pv 9) pa_nil)) pe_int (nomark _)) (pw_and1 (pt_cmpR (op_eqD hu64) (pe_ix ix_seq (pv 9) (pe_un un_neg pe_int) (fun _ _ => rfl)) pe_int (nomark _))))) (pss_one (ps_expr (pe_bm0 PySem.F.plainAttrs_list PySem.F.slot_list_pop PySem.F.type_list_pop mt_pop (pv 9)))))
  (pss_cons (ps_if (pt_cmpR (op_neD hu64) (pe_callTy call_listQ (by rfl) mn.list (by decide +kernel) (pa_cons (Cal.pe c_pairing_counts (hr.mono (by decide)) (by rfl) (pa_cons (pv 7) pa_nil)) pa_nil)) (pv 9) (nomark _)) (pss_one (ps_ret pe_bl)) pss_nil)
  (pss_cons (ps_set (i := 13) nd rfl (Or.inl rfl) (pe_op op_mulQ (pe_lst (pa_cons pe_int pa_nil)) (pe_op op_addQ (pv 3) pe_int)))
  (pss_cons (ps_for PassesOwn.never rfl (pi_enumQ (by rfl) mn.enumerate (pa_cons (pv 8) pa_nil)) (pg_tup rfl (pgs_cons (pg_name (i := 10) nd rfl (Or.inl rfl)) (pgs_cons (pg_name (i := 14) nd rfl (Or.inl rfl)) pgs_nil))) (pss_one (ps_asg (pe_ifExp (pt_cmpR (op_eqD hu64) (pe_op op_mod (pe_callTy call_intQ (by rfl) mn.int (by decide +kernel) (pa_cons (pv 10) pa_nil)) pe_int) pe_int (nomark _)) (pv 14) (pe_op op_sub pe_int (pv 14))) (pg_sub (pv 13) (pe_op op_sub (pv 3) (pe_op op_mulQ pe_int (pv 10))) set_list))))
  (pss_cons (ps_if (pt_cmpR (op_neD hu64) (Cal.pe c_pairing_polynomial (hr.mono (by decide)) (by rfl) (pa_cons (pv 4) pa_nil)) (pe_callTy call_tupleQ (by rfl) mn.tuple (by decide +kernel) (pa_cons (pv 13) pa_nil)) (nomark _)) (pss_one (ps_ret pe_bl)) pss_nil)
  (pss_cons (ps_if (pt_cmpR op_lt (pv 3) pe_int (nomark _)) (pss_cons (ps_set (i := 15) nd rfl (Or.inl rfl) (pe_tup (pa_cons (pe_op op_addQ (pv 3) pe_int) (pa_cons (pe_callTy call_tupleQ (by rfl) mn.tuple (by decide +kernel) (pa_cons (pe_callB cr_sortedQ (by rfl) mn.sorted (by decide +kernel) (pa_cons (pe_op op_addQ (pe_callTy call_listQ (by rfl) mn.list (by decide +kernel) (pa_cons (pe_ix ix_seq (pv 4) pe_int (fun _ _ => rfl)) pa_nil)) (pe_lc (own := [("a", 6)]) rfl nd (pi_range1 (by rfl) mn.range (pa_cons (pv 3) pa_nil)) (blkOk_by (N := n_law) (sc := defScope s_law) (by decide +kernel)) (fun _ _ _ _ _ => (pg_name (i := 6) nd rfl (Or.inl rfl))) (fun _ _ _ _ _ => pts_nil) (fun _ _ _ _ _ => (pe_tup (pa_cons (pv 6) (pa_cons (pv 3) pa_nil)))))) pa_nil)) pa_nil)) pa_nil))))
  (pss_cons (ps_par (i := 16) (j := 17) rfl nd rfl rfl (by decide) rfl rfl (pa_cons (pe_op op_addQ (pv 8) (pe_lst (pa_cons pe_int pa_nil))) (pa_cons (pe_lst (pa_cons pe_int pa_nil)) pa_nil)) (by rfl))
  (pss_cons (ps_for PassesOwn.never rfl (pi_enumQ (by rfl) mn.enumerate (pa_cons (pv 8) pa_nil)) (pg_tup rfl (pgs_cons (pg_name (i := 10) nd rfl (Or.inl rfl)) (pgs_cons (pg_name (i := 14) nd rfl (Or.inl rfl)) pgs_nil))) (pss_one (ps_expr (pe_bm PySem.F.plainAttrs_list PySem.F.slot_list_append PySem.F.type_list_append mt_append (pv 17) (pa_cons (pe_op op_mulQ (pv 14) (pe_op op_sub (pv 3) (pe_op op_mulQ pe_int (pv 10)))) pa_nil)))))
  (pss_cons (ps_setLc (i := 9) (own := [("x", 21), ("y", 22)]) rfl nd rfl rfl (sw_true rfl rfl rfl (by decide +kernel)) (RZ.pi_zipA (by rfl) mn.zip (pa_cons (pv 16) (pa_cons (pv 17) pa_nil))) (blkOk_by (N := n_law) (sc := defScope s_law) (by decide +kernel)) (fun _ _ _ _ _ => (pg_tup rfl (pgs_cons (pg_name (i := 21) nd rfl (Or.inl rfl)) (pgs_cons (pg_name (i := 22) nd rfl (Or.inl rfl)) pgs_nil)))) (fun _ _ _ _ _ => pts_nil) (fun _ _ _ _ _ => (pe_op op_addQ (pv 21) (pv 22))))
  (pss_cons (ps_while PassesOwn.never (PW.pt (pw_and (pt_cmpR op_gt (pe_callB call_lenQ (by rfl) mn.len PySem.boot_len (pa_cons (pv 9) pa_nil)) pe_int (nomark _)) (pw_and1 (pt_cmpR (op_eqD hu64) (pe_ix ix_seq (pv 9) (pe_un un_neg pe_int) (fun _ _ => rfl)) pe_int (nomark _))))) (pss_one (ps_expr (pe_bm0 PySem.F.plainAttrs_list PySem.F.slot_list_pop PySem.F.type_list_pop mt_pop (pv 9)))))
  (pss_one (ps_if (pt_cmpR (op_neD hu64) (pe_callTy call_listQ (by rfl) mn.list (by decide +kernel) (pa_cons (Cal.pe c_pairing_counts (hr.mono (by decide)) (by rfl) (pa_cons (pv 15) pa_nil)) pa_nil)) (pv 9) (nomark _)) (pss_one (ps_ret pe_bl)) pss_nil))))))) pss_nil)
  (pss_cons (ps_set (i := 18) nd rfl (Or.inl rfl) (Cal.pe c_law_web (hr.mono (by decide)) (by rfl) (pa_cons (pv 1) (pa_cons (Cal.pe c_law_pick (hr.mono (by decide)) (by rfl) (pa_cons (pv 1) (pa_cons (pe_op op_sub pe_int (pv 3)) pa_nil))) (pa_cons pe_int pa_nil)))))
  (pss_one (ps_if (pt_cmpR (op_neD hu64) (pe_callTy call_listQ (by rfl) mn.list (by decide +kernel) (pa_cons (Cal.pe c_pairing_counts (hr.mono (by decide)) (by rfl) (pa_cons (Cal.pe c_webs_beside (hr.mono (by decide)) (by rfl) (pa_cons (pv 4) (pa_cons (pv 18) pa_nil))) pa_nil)) pa_nil)) (pe_callTy call_listQ (by rfl) mn.list (by decide +kernel) (pa_cons (Cal.pe c_law_product (hr.mono (by decide)) (by rfl) (pa_cons (pv 8) (pa_cons (Cal.pe c_law_counts (hr.mono (by decide)) (by rfl) (pa_cons (pe_ix ix_seq (pv 18) pe_int (fun _ _ => rfl)) (pa_cons (pe_ix ix_seq (pv 18) pe_int (fun _ _ => rfl)) (pa_cons pe_nnew pa_nil)))) pa_nil))) pa_nil)) (nomark _)) (pss_one (ps_ret pe_bl)) pss_nil)))))))))))))))))))
  (pss_one (ps_ret pe_bl))))
end K72
/-! K72W1: walks: has_web_ring, polynomial_sum, polynomial_times, least_tied. -/
namespace K72
open PySem PySem.Spec L2 VL

abbrev wD (n : Nat) (ts : List Tie) : D := .tuple [nD n, .tuple (ts.map tD)]
theorem lf_ties (ts : List Tie) : lf (.tuple (ts.map tD)) = true := by
  rw [lf]; exact lfs_map fun _ => lf_tD
theorem lf_wD (n : Nat) (ts : List Tie) : lf (wD n ts) = true := lf_tuple (by simp only [lfs, lf_int, lf_ties, Bool.and_self])
theorem lf_nD {n : Nat} : lf (nD n) = true := lf_int
theorem eqv_nD (m n : Nat) : PyData.eqv (nD m) (nD n) = decide (m = n) := by
  rw [eqv_intD]
  by_cases h : m = n
  · simp [h]
  · simp [h]; omega

theorem ite_nD {a b : Nat} (c : Prop) [Decidable c] : (if decide c = true then nD a else nD b) = nD (if c then a else b) := by
  by_cases h : c
  · rw [decide_eq_true h, if_pos rfl, if_pos h]
  · rw [decide_eq_false h, if_neg (by simp), if_neg h]

/-! ### has_web_ring -/
def hasRing : List Tie → List Nat → Bool
  | [], _ => false
  | e :: ts, p => if p.getD e.1 0 = p.getD e.2 0 then true else hasRing ts (p.map fun x => if x = p.getD e.2 0 then p.getD e.1 0 else x)
theorem nD_at {p : List Nat} {i : Nat} (h : i < p.length) : (p.map nD)[i]? = some (nD (p.getD i 0)) := by
  simp [List.getElem?_map, List.getElem?_eq_getElem h, List.getD_eq_getElem?_getD]

theorem w_has_web_ring {K : PySem.W.Frag} {H : Hp} {Q : VK} {n : Nat} {ts : List Tie} (hn : n ≤ 1000) (hw : Within n ts)
    (hr : ∀ env v σ H', R K H env σ H' → Dq K H' v (.bool (hasRing ts (List.range n))) → Q v H') :
    WpS K H (rd_has_web_ring K) (env0 7 [wD n ts]) { nx := fun _ => False, rt := Q } := by
  unfold rd_has_web_ring
  refine ws_s (ws_asg (s := .ow ((List.range n).map nD)) (es_f ((ef_listRg (er_1 (i := (n : Int)) (ev_ixT ev_v ev_int rfl)) (RgOk.of_le (by omega) (by omega) (by omega) (by omega))).cast rangeD_nat) (lfs_map fun _ => lf_nD)) rfl) ?_
  refine ws_seq (M := fun e => ∃ p : List Nat, e = [.im (wD n ts), .ow (p.map nD), .no, .no, .no, .no, .no] ∧ hasRing ts (List.range n) = false) ?_ ?_
  · refine ws_for (ds := ts.map tD) (I := fun i e => ∃ p : List Nat, e = [.im (wD n ts), .ow (p.map nD), .no, .no, .no, .no, .no] ∧ p.length = n ∧ hasRing (ts.drop i) p = hasRing ts (List.range n)) (ez_tup (ez_lf (ev_ixT ev_v ev_int rfl) (lf_ties ts))) ⟨_, Fg.refl _, List.range n, rfl, by simp, rfl⟩ ?_ ?_
    · rintro i d e hd ⟨p, rfl, hp, hh⟩
      obtain ⟨⟨a, b⟩, ht, rfl⟩ := map_at hd
      obtain ⟨hi, hti⟩ := List.getElem?_eq_some_iff.mp ht
      obtain ⟨ha, hb, hab⟩ := hw (a, b) (List.mem_of_getElem? ht)
      rw [List.drop_eq_getElem_cons hi, hti] at hh
      refine ⟨_, bd_tup (bds_cons bd_name (bds_cons bd_name bds_nil)), ?_⟩
      refine ws_seq (M := fun e => e = [.im (wD n ts), .ow (p.map nD), .im (nD a), .im (nD b), .no, .no, .no] ∧ p.getD a 0 ≠ p.getD b 0) ?_ ?_
      · refine ws_if (b := decide (p.getD a 0 = p.getD b 0)) (eb_test ((ev_eq (ev_ixLn ev_v ev_v (nD_at (by omega))) (ev_ixLn ev_v ev_v (nD_at (by omega))) (shp_int (n := 0)).sh (shp_int (n := 0)).sh).cast (by rw [eqv_nD]))) (fun h => ?_) (fun h => ?_)
        · refine ws_ret ev_bl fun v σ H' r hd => hr _ v σ H' r ?_
          have e : p.getD a 0 = p.getD b 0 := of_decide_eq_true h
          rw [← hh, hasRing, if_pos e]
          exact hd
        · exact ws_next ⟨rfl, of_decide_eq_false h⟩
      · rintro e ⟨rfl, hne⟩
        rw [hasRing, if_neg hne] at hh
        refine ws_s (ws_asgG (ez_lf (ev_tup (ea_cons (ev_ixLn ev_v ev_v (nD_at (p := p) (i := b) (by omega))) (ea_cons (ev_ixLn ev_v ev_v (nD_at (p := p) (i := a) (by omega))) ea_nil))) (by simp [lf, lfs])) (bd_tup (bds_cons bd_name (bds_cons bd_name bds_nil))) rfl) ?_
        refine ws_asg (s := .ow ((p.map fun x => if x = p.getD b 0 then p.getD a 0 else x).map nD)) (es_f ((ef_lcM (xs := p) (enc := nD) (ei_list ev_v) (fun x => nD (if x = p.getD b 0 then p.getD a 0 else x)) (by omega) fun x hx => ⟨_, bd_name, by simp, ?_, lf_nD⟩).cast ?_) (lfs_map fun _ => lf_nD)) ?_
        · refine (ev_ite (b := decide (x = p.getD b 0)) (eb_test ((ev_eq ev_v ev_v (shp_int (n := 0)).sh (shp_int (n := 0)).sh).cast (by rw [eqv_nD]))) ev_v ev_v).cast (ite_nD _)
        · rw [List.map_map]
          rfl
        · exact ⟨_, .same (.same (.drop (.drop (.drop (.drop (.drop .nil)))))), _, rfl, by simp [hp], hh⟩
    · rintro e ⟨p, rfl, hp, hh⟩
      refine ⟨p, rfl, ?_⟩
      rw [← hh, List.length_map, List.drop_length]
      rfl
  · rintro e ⟨p, rfl, hf⟩
    refine ws_ret ev_bl fun v σ H' r hd => hr _ v σ H' r ?_
    rw [hf]
    exact hd

/-! ### polynomial_sum -/
def bd64 (ns : List Int) : Prop := ∀ n ∈ ns, n.natAbs < 2 ^ 64
theorem iD_pad (a : List Int) (n : Nat) : iD a ++ List.replicate (n - a.length) (.int 0) = iD (pad a n) := by
  simp [pad, iD]
theorem bd_pad {a : List Int} (h : bd64 a) (n : Nat) : bd64 (pad a n) := fun c hc => by
  rcases List.mem_append.mp hc with hc | hc
  · exact h c hc
  · rw [List.eq_of_mem_replicate hc]; decide
theorem w_polynomial_sum {K : PySem.W.Frag} {H : Hp} {Q : VK} {a b : List Int} {t : Int} (hb : bd64 b) (ht : t.natAbs < 2 ^ 64) (hla : a.length ≤ 100000) (hlb : b.length ≤ 100000)
    (hr : ∀ env p xs σ H', R K H env σ H' → H p = none → H' p = some (.lst xs) → Dqs K H' xs (iD (pAdd a b t)) → Q (.ref p) H') :
    WpS K H (rd_polynomial_sum K) (env0 6 [.list (iD a), .list (iD b), .int t]) { nx := fun _ => False, rt := Q } := by
  unfold rd_polynomial_sum
  refine ws_s (ws_asg (s := .im (.int ((max a.length b.length : Nat) : Int))) (es_lf ((ev_max2 (ev_lenL ev_v) (ev_lenL ev_v)).cast ?_) lf_int) rfl) ?_
  · simp only [iD, List.length_map]
    congr 1
    omega
  have sz : ∀ m : Nat, m ≤ 100000 → m ≤ sizeLine := fun m h => Nat.le_trans h (by decide)
  refine ws_s (ws_par (s1 := .ow (iD (pad a (max a.length b.length)))) (s2 := .ow (iD (pad b (max a.length b.length))))
    (es_f ((ef_cat (ef_listL ev_v).dd (ef_rep1 (d := .int 0) (ef_lst (ea_cons ev_int ea_nil)).dd (ev_sub ev_v (ev_lenL ev_v)) (by simp; omega) (by simp; omega)).dd ?_).cast ?_) (lfs_ints _))
    (es_f ((ef_cat (ef_listL ev_v).dd (ef_rep1 (d := .int 0) (ef_lst (ea_cons ev_int ea_nil)).dd (ev_sub ev_v (ev_lenL ev_v)) (by simp; omega) (by simp; omega)).dd ?_).cast ?_) (lfs_ints _)) (by decide) rfl) ?_
  · refine sz _ ?_; simp; omega
  · rw [← iD_pad]
    congr 2
    simp <;> omega
  · refine sz _ ?_; simp; omega
  · rw [← iD_pad]
    congr 2
    simp <;> omega
  refine ws_retF (ds := iD (pAdd a b t)) ((ef_lcM (xs := (pad a (max a.length b.length)).zip (pad b (max a.length b.length))) (enc := fun p => .tuple [.int p.1, .int p.2]) (by rw [← zipD_map]; exact ei_zipL ev_v ev_v) (fun p => .int (p.1 + t * p.2)) ?_ fun p hp => ⟨_, bd_tup (bds_cons bd_name (bds_cons bd_name bds_nil)), by simp, ev_add ev_v (ev_mul ev_v ev_v ?_), lf_int⟩).cast ?_) fun p xs σ H' r n hp hd => hr _ p xs σ H' r n hp hd
  · rw [List.length_zip, pad_len _ _ (by omega)]
    omega
  · exact wide_mul ht (bd_pad hb _ _ (List.of_mem_zip hp).2) (by decide) (by decide) (by decide)
  · simp [pAdd, iD]

/-! ### polynomial_times -/
theorem w_polynomial_times {K : PySem.W.Frag} {H : Hp} {Q : VK} {a b : List Int} (ha : bd64 a) (hb : bd64 b) (hla : a.length ≤ 100000) (hlb : b.length ≤ 100000) (h0 : 0 < a.length + b.length)
    (hr : ∀ env p xs σ H', R K H env σ H' → H p = none → H' p = some (.lst xs) → Dqs K H' xs (iD (pMul a b)) → Q (.ref p) H') :
    WpS K H (rd_polynomial_times K) (env0 7 [.list (iD a), .list (iD b)]) { nx := fun _ => False, rt := Q } := by
  unfold rd_polynomial_times
  refine ws_s (ws_asg (s := .ow (iD (out a b 0))) (es_f ((ef_rep1 (d := .int 0) (ef_lst (ea_cons ev_int ea_nil)).dd (ev_sub (ev_add (ev_lenL ev_v) (ev_lenL ev_v)) ev_int) (by simp; omega)).cast ?_) (lfs_ints _)) rfl) ?_
  · simp only [out, iD, List.map_replicate, List.length_map]
    congr 1
    omega
  refine ws_s (ws_forE (ev := fun i => [.im (.list (iD a)), .im (.list (iD b)), .ow (iD (out a b i)), .no, .no, .no, .no]) (ez_enumL (ez_im rfl)) (Fg.refl _) (fun i d hd => ?_) rfl) ?_
  · obtain ⟨e, he, rfl⟩ := enum_at hd
    obtain ⟨x, hx, rfl⟩ := map_at he
    obtain ⟨hi, hxi⟩ := List.getElem?_eq_some_iff.mp hx
    refine ⟨_, bd_tup (bds_cons bd_name (bds_cons bd_name bds_nil)), ?_⟩
    refine ws_forE (ev := fun j => [.im (.list (iD a)), .im (.list (iD b)), .ow (iD (inn x b i j (out a b i))), .im (.int (i : Nat)), .im (.int x), .no, .no]) (ez_enumL (ez_im rfl)) (Fg.refl _) (fun j d hd => ?_) ?_
    · obtain ⟨e, he, rfl⟩ := enum_at hd
      obtain ⟨y, hy, rfl⟩ := map_at he
      obtain ⟨hj, hyj⟩ := List.getElem?_eq_some_iff.mp hy
      refine ⟨_, bd_tup (bds_cons bd_name (bds_cons bd_name bds_nil)), ?_⟩
      have hlen : i + j < (inn x b i j (out a b i)).length := by rw [inn_len, out_len]; omega
      have hg : (iD (inn x b i j (out a b i)))[i + j]? = some (.int (inn x b i j (out a b i))[i + j]) := by simp [List.getElem?_eq_getElem hlen]
      refine ws_setitem (n := 2) (m := i + j) rfl (ev_add (ev_ixLn (n := i + j) ev_v ((ev_add ev_v ev_v).cast (by simp)) hg) (ev_mul ev_v ev_v ?_)) lf_int ((ev_add ev_v ev_v).cast (by simp)) (by simpa using hlen) ?_
      · exact wide_mul (ha _ (List.mem_of_getElem? hx)) (hb _ (List.mem_of_getElem? hy)) (by decide) (by decide) (by decide)
      · refine .same (.same ?_)
        have e : (iD (inn x b i j (out a b i))).set (i + j) (.int ((inn x b i j (out a b i))[i + j] + x * y)) = iD (inn x b i (j + 1) (out a b i)) := by
          simp [inn, addAt, iD, List.map_set, List.getD_eq_getElem?_getD, List.getElem?_eq_getElem hlen, hy]
        rw [e]
        exact .same (.same (.same (.drop (.drop .nil))))
    · refine .same (.same ?_)
      have e : inn x b i (enumD (iD b)).length (out a b i) = out a b (i + 1) := by
        simp [out, enumD_len, List.getD_eq_getElem?_getD, hx]
      rw [e]
      exact .same (.drop (.drop (.drop (.drop .nil))))
  · refine ws_retO (n := 2) rfl fun p xs σ H' r n hp hd => hr _ p xs σ H' r n hp ?_
    have e : out a b (enumD (iD a)).length = pMul a b := by simp [pMul, enumD_len]
    rw [e] at hd
    exact hd

/-! ### least_tied -/
def deg (ties : List Tie) (v : Nat) : Nat := (ties.filter (inc v)).length
/-- the first of the names with the most ties, and how many -/
def least (ties : List Tie) : List Nat → Option Nat × Nat → Option Nat × Nat
  | [], b => b
  | v :: V, b => least ties V (if b.2 < deg ties v then (some v, deg ties v) else b)
def oD : Option Nat → D
  | none => .none
  | some v => nD v
theorem lf_oD (o : Option Nat) : lf (oD o) = true := by cases o <;> simp [oD, lf]
theorem least_spec (ties : List Tie) : ∀ (V : List Nat) (b : Option Nat × Nat), (b.1 = none → b.2 = 0) → (∀ v, b.1 = some v → b.2 ≠ 0) →
    match (least ties V b).1 with
    | none => b.1 = none ∧ ∀ v ∈ V, deg ties v = 0
    | some v => v ∈ V ∨ b.1 = some v
  | [], b, h, h' => by
    unfold least
    cases q : b.1 with
    | none => simp [q]
    | some v => simp [q]
  | v :: V, b, h, h' => by
    unfold least
    by_cases c : b.2 < deg ties v
    · rw [if_pos c]
      have ih := least_spec ties V (some v, deg ties v) (fun q => by cases q) (fun w _ => by show deg ties v ≠ 0; omega)
      cases q : (least ties V (some v, deg ties v)).1 with
      | none => rw [q] at ih; exact absurd ih.1 (by simp)
      | some w =>
        rw [q] at ih
        rcases ih with ih | ih
        · exact .inl (by simp [ih])
        · exact .inl (by have : v = w := Option.some.inj ih; simp [this])
    · rw [if_neg c]
      have ih := least_spec ties V b h h'
      cases q : (least ties V b).1 with
      | none =>
        rw [q] at ih
        obtain ⟨i1, i2⟩ := ih
        refine ⟨i1, fun w hw => ?_⟩
        rcases List.mem_cons.mp hw with rfl | hw
        · have := h i1; omega
        · exact i2 w hw
      | some w =>
        rw [q] at ih
        rcases ih with ih | ih
        · exact .inl (by simp [ih])
        · exact .inr ih
theorem w_least_tied {K : PySem.W.Frag} {H : Hp} {Q : VK} {V : List Nat} {ts : List Tie} (hl : ts.length ≤ 100000)
    (hr : ∀ env v σ H', R K H env σ H' → Dq K H' v (oD (least ts V (none, 0)).1) → Q v H') :
    WpS K H (rd_least_tied K) (env0 7 [.tuple (V.map nD), .tuple (ts.map tD)]) { nx := fun _ => False, rt := Q } := by
  unfold rd_least_tied
  have lV : lf (.tuple (V.map nD)) = true := lf_tuple (lfs_map fun _ => lf_nD)
  refine ws_s (ws_asgG (ez_lf (ev_tup (ea_cons ev_non (ea_cons ev_int ea_nil))) (by simp [lf, lfs])) (bd_tup (bds_cons bd_name (bds_cons bd_name bds_nil))) rfl) ?_
  refine ws_seq (M := fun e => ∃ k : Nat, e = [.im (.tuple (V.map nD)), .im (.tuple (ts.map tD)), .im (oD (least ts V (none, 0)).1), .im (nD k), .no, .no, .no]) ?_ ?_
  · refine ws_for (ds := V.map nD) (I := fun i e => ∃ b : Option Nat × Nat, e = [.im (.tuple (V.map nD)), .im (.tuple (ts.map tD)), .im (oD b.1), .im (nD b.2), .no, .no, .no] ∧ least ts (V.drop i) b = least ts V (none, 0)) (ez_tup (ez_lf ev_v lV)) ⟨_, Fg.refl _, (none, 0), rfl, rfl⟩ ?_ ?_
    · rintro i d e hd ⟨b, rfl, hb⟩
      obtain ⟨v, hv, rfl⟩ := map_at hd
      obtain ⟨hi, hvi⟩ := List.getElem?_eq_some_iff.mp hv
      rw [List.drop_eq_getElem_cons hi, hvi, least] at hb
      refine ⟨_, bd_name, ?_⟩
      refine ws_s (ws_asg (s := .im (nD (deg ts v))) (es_lf ((ev_lenL (ef_lc (xs := ts) (enc := tD) (ei_tup ev_v) (inc v) tD (by omega) fun t ht => ⟨_, bd_name, by simp, eb_test ((ev_inT (ds := [.int (t.1 : Nat), .int (t.2 : Nat)]) ev_v ev_v (shp_int (n := 0)).sh (shp_lst (n := 0) ?_).sh).cast ?_), fun _ => ⟨ev_v, lf_tD⟩⟩).dd).cast ?_) lf_nD) rfl) ?_
      · intro d hd
        rcases List.mem_cons.mp hd with rfl | hd
        · exact shp_int
        · rw [List.mem_singleton.mp hd]; exact shp_int
      · rw [if_neg (by simp), any_tD]
        rfl
      · simp [deg, nD]
      refine ws_if (b := decide (b.2 < deg ts v)) (eb_test ((ev_gt ev_v ev_v).cast ?_)) (fun h => ?_) (fun h => ?_)
      · congr 1
        by_cases q : b.2 < deg ts v <;> simp [q] <;> omega
      · refine ws_par (s1 := .im (nD v)) (s2 := .im (nD (deg ts v))) (es_lf ev_v lf_nD) (es_lf ev_v lf_nD) (by decide) ?_
        rw [if_pos (of_decide_eq_true h)] at hb
        exact ⟨_, .same (.same (.same (.same (.drop (.drop (.drop .nil)))))), (some v, deg ts v), rfl, hb⟩
      · refine ws_next ?_
        rw [if_neg (of_decide_eq_false h)] at hb
        exact ⟨_, .same (.same (.same (.same (.drop (.drop (.drop .nil)))))), b, rfl, hb⟩
    · rintro e ⟨b, rfl, hb⟩
      rw [List.length_map, List.drop_length, least] at hb
      rw [hb]
      exact ⟨_, rfl⟩
  · rintro e ⟨k, rfl⟩
    exact ws_ret ev_v fun v σ H' r hd => hr _ v σ H' r hd
end K72
/-! K72Q: a web without rings, its names one behind the other; its counts from the last name to the first. -/
namespace K72

abbrev Row := List (Nat × Option Nat)
def nms (F : Row) : List Nat := F.map (·.1)
theorem nms_snoc (F : Row) (v : Nat) (a : Option Nat) : nms (F ++ [(v, a)]) = nms F ++ [v] := by simp [nms]
def adj (ts : List Tie) (u v : Nat) : Prop := (u, v) ∈ ts ∨ (v, u) ∈ ts
def Closed (ts : List Tie) (T : Nat → Prop) : Prop := ∀ e ∈ ts, (T e.1 ↔ T e.2)
/-- found so: each name but the first of a part behind one that it is tied to -/
inductive Good (ts : List Tie) : Row → Prop
  | nil : Good ts []
  | snoc {F : Row} {v : Nat} {a : Option Nat} : Good ts F → v ∉ nms F → (∀ p, a = some p → p ∈ nms F ∧ adj ts p v) → (a = none → ∃ T, Closed ts T ∧ (∀ u ∈ nms F, T u) ∧ ¬ T v) → Good ts (F ++ [(v, a)])
def inside (ts : List Tie) (V : List Nat) : List Tie := ts.filter fun e => decide (e.1 ∈ V) && decide (e.2 ∈ V)
theorem mem_inside {ts : List Tie} {V : List Nat} {e : Tie} : e ∈ inside ts V ↔ e ∈ ts ∧ e.1 ∈ V ∧ e.2 ∈ V := by simp [inside]
theorem inside_wt {ts : List Tie} {V : List Nat} {v : Nat} (h : v ∉ V) : wt (inside ts (V ++ [v])) v = inside ts V := by
  unfold wt inside
  rw [List.filter_filter]
  apply List.filter_congr
  intro e _
  rw [Bool.eq_iff_iff]
  simp only [inc, Bool.and_eq_true, Bool.not_eq_true', Bool.or_eq_false_iff, beq_eq_false_iff_ne, decide_eq_true_eq, List.mem_append, List.mem_singleton]
  constructor
  · rintro ⟨⟨h1, h2⟩, h3, h4⟩
    exact ⟨h3.elim id fun z => absurd z h1, h4.elim id fun z => absurd z h2⟩
  · rintro ⟨h1, h2⟩
    exact ⟨⟨fun z => h (z ▸ h1), fun z => h (z ▸ h2)⟩, .inl h1, .inl h2⟩
def back (ts : List Tie) (V : List Nat) (v : Nat) : List Tie := (inside ts (V ++ [v])).filter (inc v)
theorem inside_len {ts : List Tie} {V : List Nat} {v : Nat} (h : v ∉ V) : (inside ts (V ++ [v])).length = (inside ts V).length + (back ts V v).length := by
  have := (List.filter_append_perm (inc v) (inside ts (V ++ [v]))).length_eq
  rw [List.length_append] at this
  rw [← inside_wt h]
  unfold back wt
  omega
def rts (F : Row) : List Nat := (F.filter fun x => x.2.isNone).map (·.1)
theorem rts_snoc (F : Row) (v : Nat) (a : Option Nat) : rts (F ++ [(v, a)]) = rts F ++ (if a.isNone then [v] else []) := by
  unfold rts
  rw [List.filter_append, List.map_append]
  cases a <;> simp
theorem rts_sub {F : Row} {v : Nat} (h : v ∈ rts F) : v ∈ nms F := by
  unfold rts at h
  obtain ⟨x, hx, rfl⟩ := List.mem_map.mp h
  exact List.mem_map.mpr ⟨x, (List.mem_filter.mp hx).1, rfl⟩

/-! ### labels -/
theorem sub_len : ∀ {A B : List Nat}, A.Nodup → (∀ a ∈ A, a ∈ B) → A.length ≤ B.length
  | [], _, _, _ => by simp
  | a :: A, B, nd, h => by
    obtain ⟨n1, n2⟩ := List.nodup_cons.mp nd
    have ha := h a (by simp)
    have := sub_len (A := A) (B := B.erase a) n2 fun b hb => (List.mem_erase_of_ne (fun z => n1 (by rw [← z]; exact hb))).mpr (h b (by simp [hb]))
    rw [List.length_erase_of_mem ha] at this
    have hp := List.length_pos_of_mem ha
    simp only [List.length_cons]
    omega
theorem ring_labels {n : Nat} : ∀ (ts : List Tie) (p Ls : List Nat), Within n ts → p.length = n → Ls.Nodup → (∀ v, v < n → p.getD v 0 ∈ Ls) → hasRing ts p = false →
    ∃ p' Ls' : List Nat, Ls'.Nodup ∧ (∀ v, v < n → p'.getD v 0 ∈ Ls') ∧ Ls'.length + ts.length = Ls.length ∧
      ∀ T : Nat → Prop, Closed ts T → (∀ u v, u < n → v < n → p.getD u 0 = p.getD v 0 → (T u ↔ T v)) → ∀ u v, u < n → v < n → p'.getD u 0 = p'.getD v 0 → (T u ↔ T v)
  | [], p, Ls, _, _, nd, hm, _ => ⟨p, Ls, nd, hm, by simp, fun T _ h => h⟩
  | e :: ts, p, Ls, hw, hl, nd, hm, hr => by
    rw [hasRing] at hr
    obtain ⟨ha, hb, _⟩ := hw e (by simp)
    have hne : p.getD e.1 0 ≠ p.getD e.2 0 := fun q => by rw [if_pos q] at hr; cases hr
    rw [if_neg hne] at hr
    have get : ∀ v, v < n → (p.map fun x => if x = p.getD e.2 0 then p.getD e.1 0 else x).getD v 0 = if p.getD v 0 = p.getD e.2 0 then p.getD e.1 0 else p.getD v 0 := fun v hv => by
      have hv' : v < p.length := by omega
      simp [List.getD_eq_getElem?_getD, List.getElem?_map, List.getElem?_eq_getElem hv']
    obtain ⟨p', Ls', h1, h2, h3, h4⟩ := ring_labels ts (p.map fun x => if x = p.getD e.2 0 then p.getD e.1 0 else x) (Ls.erase (p.getD e.2 0)) (fun f hf => hw f (by simp [hf])) (by simpa using hl) (nd.erase _) (fun v hv => by
      rw [get v hv]
      by_cases q : p.getD v 0 = p.getD e.2 0
      · rw [if_pos q]; exact (List.mem_erase_of_ne hne).mpr (hm _ ha)
      · rw [if_neg q]; exact (List.mem_erase_of_ne q).mpr (hm _ hv)) hr
    refine ⟨p', Ls', h1, h2, ?_, fun T hT hp => h4 T (fun f hf => hT f (by simp [hf])) fun u v hu hv q => ?_⟩
    · have hmb := hm _ hb
      rw [List.length_erase_of_mem hmb] at h3
      have := List.length_pos_of_mem hmb
      simp only [List.length_cons]
      omega
    · rw [get u hu, get v hv] at q
      have te := hT e (by simp)
      by_cases q1 : p.getD u 0 = p.getD e.2 0
      · have t1 := hp u e.2 hu hb q1
        by_cases q2 : p.getD v 0 = p.getD e.2 0
        · exact t1.trans (hp v e.2 hv hb q2).symm
        · rw [if_pos q1, if_neg q2] at q
          exact t1.trans (te.symm.trans (hp e.1 v ha hv q))
      · by_cases q2 : p.getD v 0 = p.getD e.2 0
        · rw [if_neg q1, if_pos q2] at q
          exact (hp u e.1 hu ha q).trans (te.trans (hp v e.2 hv hb q2).symm)
        · rw [if_neg q1, if_neg q2] at q
          exact hp u v hu hv q
theorem roots_few {n : Nat} {ts : List Tie} {F : Row} (hw : Within n ts) (hr : hasRing ts (List.range n) = false) (hg : Good ts F) (hn : ∀ v ∈ nms F, v < n) : (rts F).length + ts.length ≤ n := by
  have g0 : ∀ v, v < n → (List.range n).getD v 0 = v := fun v hv => by simp [List.getD_eq_getElem?_getD, List.getElem?_range hv]
  obtain ⟨p, Ls, h1, h2, h3, h4⟩ := ring_labels ts (List.range n) (List.range n) hw (by simp) List.nodup_range (fun v hv => by rw [g0 v hv]; exact List.mem_range.mpr hv) hr
  have lab : ((rts F).map fun v => p.getD v 0).Nodup := by
    clear h1 h2 h3
    induction hg with
    | nil => exact List.nodup_nil
    | @snoc F v a hg hv hs ho ih =>
      rw [nms_snoc] at hn
      have ih' := ih fun u hu => hn u (by simp [hu])
      rw [rts_snoc]
      cases a with
      | some q => simpa using ih'
      | none =>
        simp only [Option.isNone_none, if_true, List.map_append, List.map_cons, List.map_nil]
        refine List.nodup_append.mpr ⟨ih', by simp, fun c hc b hb q => ?_⟩
        obtain ⟨u, hu, rfl⟩ := List.mem_map.mp hc
        rw [List.mem_singleton.mp hb] at q
        obtain ⟨T, hT, t1, t2⟩ := ho rfl
        have hun := hn u (by simp [rts_sub hu])
        exact t2 ((h4 T hT (fun a b ha hb q => by rw [g0 a ha, g0 b hb] at q; rw [q]) u v hun (hn v (by simp)) q).mp (t1 u (rts_sub hu)))
  have := sub_len lab fun c hc => by
    obtain ⟨u, hu, rfl⟩ := List.mem_map.mp hc
    exact h2 u (hn u (rts_sub hu))
  rw [List.length_map] at this
  rw [List.length_range] at h3
  omega

/-! ### each name has one tie back, or none -/
inductive Tree (ts : List Tie) : Row → Prop
  | nil : Tree ts []
  | root {F : Row} {v : Nat} : Tree ts F → v ∉ nms F → back ts (nms F) v = [] → Tree ts (F ++ [(v, none)])
  | leaf {F : Row} {v p : Nat} : Tree ts F → v ∉ nms F → p ∈ nms F → (back ts (nms F) v).length = 1 → (∀ e ∈ back ts (nms F) v, inc p e = true) → Tree ts (F ++ [(v, some p)])
theorem good_back {ts : List Tie} {F : Row} {v p : Nat} (hv : v ∉ nms F) (hp : p ∈ nms F) (ha : adj ts p v) : ∃ e ∈ back ts (nms F) v, inc p e = true := by
  rcases ha with h | h
  · exact ⟨(p, v), List.mem_filter.mpr ⟨mem_inside.mpr ⟨h, by simp [hp], by simp⟩, by simp [inc]⟩, by simp [inc]⟩
  · exact ⟨(v, p), List.mem_filter.mpr ⟨mem_inside.mpr ⟨h, by simp, by simp [hp]⟩, by simp [inc]⟩, by simp [inc]⟩
theorem good_le {ts : List Tie} {F : Row} (h : Good ts F) : F.length ≤ (rts F).length + (inside ts (nms F)).length := by
  induction h with
  | nil => simp
  | @snoc F v a hg hv hs ho ih =>
    rw [nms_snoc, inside_len hv, rts_snoc, List.length_append, List.length_append]
    cases a with
    | none => simp; omega
    | some p =>
      obtain ⟨hp, ha⟩ := hs p rfl
      obtain ⟨e, he, _⟩ := good_back hv hp ha
      have := List.length_pos_of_mem he
      simp
      omega
theorem good_tree {ts : List Tie} {F : Row} (h : Good ts F) (hc : (rts F).length + (inside ts (nms F)).length ≤ F.length) : Tree ts F := by
  induction h with
  | nil => exact .nil
  | @snoc F v a hg hv hs ho ih =>
    have hl := good_le hg
    rw [nms_snoc, inside_len hv, rts_snoc, List.length_append, List.length_append] at hc
    cases a with
    | none =>
      simp at hc
      exact .root (ih (by omega)) hv (List.length_eq_zero_iff.mp (by omega))
    | some p =>
      obtain ⟨hp, ha⟩ := hs p rfl
      obtain ⟨e, he, hi⟩ := good_back hv hp ha
      have := List.length_pos_of_mem he
      simp at hc
      have h1 : (back ts (nms F) v).length = 1 := by omega
      refine .leaf (ih (by omega)) hv hp h1 fun f hf => ?_
      obtain ⟨g, hg'⟩ := List.length_eq_one_iff.mp h1
      rw [hg'] at he hf
      rw [List.mem_singleton.mp hf, ← List.mem_singleton.mp he]
      exact hi
theorem tree_of {n : Nat} {ts : List Tie} {F : Row} (hw : Within n ts) (hr : hasRing ts (List.range n) = false) (hg : Good ts F) (hn : ∀ v ∈ nms F, v < n) (hl : F.length = n) : Tree ts F := by
  refine good_tree hg ?_
  have := roots_few hw hr hg hn
  have h2 : (inside ts (nms F)).length ≤ ts.length := List.length_filter_le _ _
  omega
theorem tree_nodup {ts : List Tie} {F : Row} (h : Tree ts F) : (nms F).Nodup := by
  induction h with
  | nil => exact List.nodup_nil
  | root _ hv _ ih => rw [nms_snoc]; exact List.nodup_append.mpr ⟨ih, by simp, fun a ha b hb q => hv (by rw [← List.mem_singleton.mp hb, ← q]; exact ha)⟩
  | leaf _ hv _ _ _ ih => rw [nms_snoc]; exact List.nodup_append.mpr ⟨ih, by simp, fun a ha b hb q => hv (by rw [← List.mem_singleton.mp hb, ← q]; exact ha)⟩
theorem snoc_inj {F G : Row} {x y : Nat × Option Nat} (h : F ++ [x] = G ++ [y]) : F = G ∧ x = y := by
  have := List.append_inj' h rfl
  exact ⟨this.1, by simpa using this.2⟩
theorem tree_root {ts : List Tie} {F : Row} {v : Nat} (h : Tree ts (F ++ [(v, none)])) : Tree ts F ∧ v ∉ nms F ∧ back ts (nms F) v = [] := by
  generalize e : F ++ [(v, none)] = G at h
  cases h with
  | nil => simp at e
  | root h1 h2 h3 =>
    obtain ⟨rfl, q⟩ := snoc_inj e
    cases q
    exact ⟨h1, h2, h3⟩
  | leaf h1 h2 h3 h4 h5 =>
    obtain ⟨rfl, q⟩ := snoc_inj e
    cases q
theorem tree_leaf {ts : List Tie} {F : Row} {v p : Nat} (h : Tree ts (F ++ [(v, some p)])) : Tree ts F ∧ v ∉ nms F ∧ p ∈ nms F ∧ (back ts (nms F) v).length = 1 ∧ ∀ e ∈ back ts (nms F) v, inc p e = true := by
  generalize e : F ++ [(v, some p)] = G at h
  cases h with
  | nil => simp at e
  | root h1 h2 h3 =>
    obtain ⟨rfl, q⟩ := snoc_inj e
    cases q
  | leaf h1 h2 h3 h4 h5 =>
    obtain ⟨rfl, q⟩ := snoc_inj e
    cases q
    exact ⟨h1, h2, h3, h4, h5⟩
theorem inside_among {n : Nat} {ts : List Tie} (hw : Within n ts) (V : List Nat) : Among V (inside ts V) := fun e he => by
  obtain ⟨h1, h2, h3⟩ := mem_inside.mp he
  exact ⟨h2, h3, (hw e h1).2.2⟩

/-! ### from the last name to the first -/
abbrev fv (x : Int) (free : List (List Int)) (v : Nat) : Int := ev x (free.getD v [])
abbrev wv (x : Int) (free used : List (List Int)) (v : Nat) : Int := ev x (free.getD v []) + x * ev x (used.getD v [])
def nn (l : List Int) : Prop := ∀ c ∈ l, 0 ≤ c
structure Dp (n : Nat) (ts : List Tie) (i : Nat) (F : Row) (free used : List (List Int)) (found : List Int) : Prop where
  tree : Tree ts F
  lt : ∀ v ∈ nms F, v < n
  lf : free.length = n
  lu : used.length = n
  eq : ∀ x, ev x found * Wm x (fv x free) (wv x free used) (nms F) (inside ts (nms F)) = M x ts
  nf : ∀ l ∈ free, nn l ∧ 0 < l.length ∧ l.length ≤ 2 ^ i
  nu : ∀ l ∈ used, nn l ∧ 0 < l.length ∧ l.length ≤ 2 ^ i
  no : nn found ∧ 0 < found.length ∧ found.length ≤ 2 ^ i
  one : ∀ v ∈ nms F, 1 ≤ fv 1 free v
  ofo : 1 ≤ ev 1 found
theorem dp_start {n : Nat} {ts : List Tie} {F : Row} (hw : Within n ts) (ht : Tree ts F) (hn : ∀ v ∈ nms F, v < n) (hi : inside ts (nms F) = ts) : Dp n ts 0 F (List.replicate n [1]) (List.replicate n [0]) [1] := by
  have g1 : ∀ v ∈ nms F, (List.replicate n [1]).getD v [] = [(1 : Int)] := fun v hv => by simp [List.getD_eq_getElem?_getD, List.getElem?_replicate, hn v hv]
  have g0 : ∀ v ∈ nms F, (List.replicate n [0]).getD v [] = [(0 : Int)] := fun v hv => by simp [List.getD_eq_getElem?_getD, List.getElem?_replicate, hn v hv]
  refine ⟨ht, hn, by simp, by simp, fun x => ?_, fun l hl => ?_, fun l hl => ?_, ⟨by simp [nn], by simp, by simp⟩, fun v hv => ?_, by simp [ev]⟩
  · have h1 := Wm_congr x (f := fv x (List.replicate n [1])) (w := wv x (List.replicate n [1]) (List.replicate n [0])) (f' := fun _ => 1) (w' := fun _ => 1) (inside ts (nms F)) (nms F) (inside_among hw _) fun v hv => by
      unfold fv wv
      rw [g1 v hv, g0 v hv]
      simp [ev]
    rw [h1, Wm_one, hi]
    simp [ev]
  · rw [List.eq_of_mem_replicate hl]; exact ⟨by simp [nn], by simp, by simp⟩
  · rw [List.eq_of_mem_replicate hl]; exact ⟨by simp [nn], by simp, by simp⟩
  · show 1 ≤ ev 1 _
    rw [g1 v hv]; simp [ev]
theorem nn_get {l : List Int} (h : nn l) (k : Nat) : 0 ≤ l.getD k 0 := by
  by_cases q : k < l.length
  · rw [List.getD_eq_getElem?_getD, List.getElem?_eq_getElem q]
    exact h _ (List.getElem_mem q)
  · rw [List.getD_eq_getElem?_getD, List.getElem?_eq_none (by omega)]
    simp
theorem nn_of_get {l : List Int} (h : ∀ k, 0 ≤ l.getD k 0) : nn l := fun c hc => by
  obtain ⟨k, hk, rfl⟩ := List.getElem_of_mem hc
  have := h k
  rw [List.getD_eq_getElem?_getD, List.getElem?_eq_getElem hk] at this
  exact this
theorem nn_add {a b : List Int} (ha : nn a) (hb : nn b) : nn (pAdd a b 1) := nn_of_get fun k => by
  rw [pAdd_get]
  have := nn_get ha k
  have := nn_get hb k
  omega
theorem nn_mul {a b : List Int} (ha : nn a) (hb : nn b) : nn (pMul a b) := nn_of_get fun k => out_nn (nn_get ha) (nn_get hb) _ k
theorem nn_zero {a : List Int} (ha : nn a) : nn (0 :: a) := fun c hc => (List.mem_cons.mp hc).elim (fun h => by rw [h]; decide) (ha c)
theorem bd_of {l : List Int} (h : nn l) (hm : ev 1 l ≤ 2 ^ 63) : bd64 l := fun c hc => by
  have h1 := (le_ev1 h).1 c hc
  have h2 := h c hc
  omega
theorem M1_63 {ts : List Tie} (h : ts.length ≤ 63) : M 1 ts ≤ 2 ^ 63 := by
  have h1 := (M1_le ts).2
  have h3 : (2 : Int) ^ ts.length ≤ 2 ^ 63 := by
    have : (2 : Nat) ^ ts.length ≤ 2 ^ 63 := Nat.pow_le_pow_right (by decide) h
    exact_mod_cast this
  omega
section
variable {n i : Nat} {ts : List Tie} {F : Row} {free used : List (List Int)} {found : List Int}
theorem Dp.fnn (h : Dp n ts i F free used found) {v : Nat} (hv : v < n) : nn (free.getD v []) ∧ 0 < (free.getD v []).length ∧ (free.getD v []).length ≤ 2 ^ i := by
  have hl : v < free.length := by rw [h.lf]; exact hv
  rw [List.getD_eq_getElem?_getD, List.getElem?_eq_getElem hl]
  exact h.nf _ (List.getElem_mem hl)
theorem Dp.unn (h : Dp n ts i F free used found) {v : Nat} (hv : v < n) : nn (used.getD v []) ∧ 0 < (used.getD v []).length ∧ (used.getD v []).length ≤ 2 ^ i := by
  have hl : v < used.length := by rw [h.lu]; exact hv
  rw [List.getD_eq_getElem?_getD, List.getElem?_eq_getElem hl]
  exact h.nu _ (List.getElem_mem hl)
theorem Dp.ge (h : Dp n ts i F free used found) (hw : Within n ts) : ev 1 found ≤ M 1 ts ∧ ∀ v ∈ nms F, wv 1 free used v ≤ M 1 ts := by
  have h0 : ∀ v ∈ nms F, 0 ≤ fv 1 free v ∧ 1 ≤ wv 1 free used v := fun v hv => by
    have h1 := h.one v hv
    have h2 := (le_ev1 (h.unn (h.lt v hv)).1).2
    unfold wv
    unfold fv at h1 ⊢
    omega
  obtain ⟨g1, g2⟩ := Wm_ge (inside ts (nms F)) (nms F) (inside_among hw _) h0
  have e := h.eq 1
  have h1 := h.ofo
  generalize Wm 1 (fv 1 free) (wv 1 free used) (nms F) (inside ts (nms F)) = W at e g1 g2
  have k1 : ev 1 found * 1 ≤ ev 1 found * W := Int.mul_le_mul_of_nonneg_left g1 (by omega)
  have k2 : 1 * W ≤ ev 1 found * W := Int.mul_le_mul_of_nonneg_right h1 (by omega)
  exact ⟨by omega, fun v hv => by have := g2 v hv; omega⟩
/-- what the program makes of free and used at a name -/
abbrev whole (free used : List (List Int)) (v : Nat) : List Int := pAdd (free.getD v []) (0 :: used.getD v []) 1
theorem ev_whole (x : Int) (free used : List (List Int)) (v : Nat) : ev x (whole free used v) = wv x free used v := by
  unfold whole wv
  rw [ev_pAdd]
  simp only [ev]
  grind
theorem Dp.whole (h : Dp n ts i F free used found) (hw : Within n ts) (hl : ts.length ≤ 63) {v : Nat} (hv : v ∈ nms F) : nn (whole free used v) ∧ bd64 (whole free used v) ∧ 0 < (K72.whole free used v).length ∧ (K72.whole free used v).length ≤ 2 ^ i + 1 := by
  have hf := h.fnn (h.lt v hv)
  have hu := h.unn (h.lt v hv)
  have hn : nn (K72.whole free used v) := nn_add hf.1 (nn_zero hu.1)
  refine ⟨hn, bd_of hn ?_, ?_, ?_⟩
  · rw [ev_whole]; exact Int.le_trans ((h.ge hw).2 v hv) (M1_63 hl)
  · rw [pAdd_len]; omega
  · rw [pAdd_len]
    simp only [List.length_cons]
    omega
theorem Dp.bf (h : Dp n ts i F free used found) (hw : Within n ts) (hl : ts.length ≤ 63) : bd64 found := bd_of h.no.1 (Int.le_trans (h.ge hw).1 (M1_63 hl))
theorem Dp.bfree (h : Dp n ts i F free used found) (hw : Within n ts) (hl : ts.length ≤ 63) {v : Nat} (hv : v ∈ nms F) : bd64 (free.getD v []) ∧ bd64 (used.getD v []) := by
  have hf := h.fnn (h.lt v hv)
  have hu := h.unn (h.lt v hv)
  have h1 := (le_ev1 hf.1).2
  have h2 := (le_ev1 hu.1).2
  have h3 := Int.le_trans ((h.ge hw).2 v hv) (M1_63 hl)
  unfold wv at h3
  exact ⟨bd_of hf.1 (by omega), bd_of hu.1 (by omega)⟩
theorem two_pow_succ (i : Nat) : 2 ^ (i + 1) = 2 ^ i + 2 ^ i := by rw [Nat.pow_succ]; omega
theorem dp_root {v : Nat} (h : Dp n ts i (F ++ [(v, none)]) free used found) (hw : Within n ts) : Dp n ts (i + 1) F free used (pMul found (whole free used v)) := by
  obtain ⟨t1, t2, t3⟩ := tree_root h.tree
  have hv : v ∈ nms (F ++ [(v, none)]) := by simp [nms_snoc]
  have hF : ∀ u ∈ nms F, u ∈ nms (F ++ [(v, none)]) := fun u hu => by simp [nms_snoc, hu]
  have hi : inside ts (nms (F ++ [(v, none)])) = inside ts (nms F) := by
    rw [nms_snoc, ← inside_wt t2, wt_self]
    intro e he
    have := List.filter_eq_nil_iff.mp t3 e he
    simpa using this
  have nd := tree_nodup h.tree
  have hf := h.fnn (h.lt v hv)
  have hu := h.unn (h.lt v hv)
  have hn : nn (whole free used v) := nn_add hf.1 (nn_zero hu.1)
  have p2 := two_pow_succ i
  refine ⟨t1, fun u hu => h.lt u (hF u hu), h.lf, h.lu, fun x => ?_, fun l hl => ?_, fun l hl => ?_, ⟨nn_mul h.no.1 hn, ?_, ?_⟩, fun u hu => h.one u (hF u hu), ?_⟩
  · have e := h.eq x
    rw [hi, Wm_alone x _ _ _ _ nd hv fun g hg => ?_] at e
    · rw [ev_pMul, ev_whole, ← e]
      have : wo (nms (F ++ [(v, none)])) v = nms F := by
        rw [nms_snoc]
        unfold wo
        rw [List.filter_append]
        simp [wo_self t2]
      rw [this]
      grind
    · have := (mem_inside.mp hg)
      exact inc_false.mpr ⟨fun z => t2 (z ▸ this.2.1), fun z => t2 (z ▸ this.2.2)⟩
  · obtain ⟨a, b, c⟩ := h.nf l hl; exact ⟨a, b, by omega⟩
  · obtain ⟨a, b, c⟩ := h.nu l hl; exact ⟨a, b, by omega⟩
  · rw [pMul_len, pAdd_len]
    have := h.no.2.1
    omega
  · rw [pMul_len, pAdd_len]
    have := h.no.2.2
    simp only [List.length_cons]
    omega
  · rw [ev_pMul, ev_whole]
    have h1 := h.ofo
    have h2 := h.one v hv
    have h3 := (le_ev1 hu.1).2
    have h4 : 1 ≤ wv 1 free used v := by unfold wv; unfold fv at h2; omega
    have : 1 * 1 ≤ ev 1 found * wv 1 free used v := Int.mul_le_mul h1 h4 (by decide) (by omega)
    omega
theorem getD_set {α : Type} (l : List α) (p u : Nat) (a d : α) : (l.set p a).getD u d = if u = p ∧ p < l.length then a else l.getD u d := by
  rw [List.getD_eq_getElem?_getD, List.getD_eq_getElem?_getD]
  by_cases h : u = p
  · subst h
    by_cases hl : u < l.length
    · rw [List.getElem?_set_self hl, if_pos ⟨rfl, hl⟩]; rfl
    · rw [List.getElem?_eq_none (by simpa using hl), if_neg (by omega), List.getElem?_eq_none (by omega)]
  · rw [List.getElem?_set_ne (Ne.symm h), if_neg (fun q => h q.1)]
theorem dp_leaf {v p : Nat} (h : Dp n ts i (F ++ [(v, some p)]) free used found) (hw : Within n ts) (hl : ts.length ≤ 63) :
    Dp n ts (i + 1) F (free.set p (pMul (free.getD p []) (whole free used v))) (used.set p (pAdd (pMul (used.getD p []) (whole free used v)) (pMul (free.getD p []) (free.getD v [])) 1)) found ∧ bd64 (pMul (free.getD p []) (free.getD v [])) := by
  obtain ⟨t1, t2, t3, t4, t5⟩ := tree_leaf h.tree
  have hv : v ∈ nms (F ++ [(v, some p)]) := by simp [nms_snoc]
  have hF : ∀ u ∈ nms F, u ∈ nms (F ++ [(v, some p)]) := fun u hu => by simp [nms_snoc, hu]
  have hp := hF p t3
  have hvp : v ≠ p := fun z => t2 (z ▸ t3)
  have nd := tree_nodup h.tree
  have hfv := h.fnn (h.lt v hv)
  have huv := h.unn (h.lt v hv)
  have hfp := h.fnn (h.lt p hp)
  have hup := h.unn (h.lt p hp)
  have hn : nn (whole free used v) := nn_add hfv.1 (nn_zero huv.1)
  have hpn := h.lt p hp
  have p2 := two_pow_succ i
  have hwl : 0 < (whole free used v).length ∧ (whole free used v).length ≤ 2 ^ i + 1 := by
    rw [pAdd_len]
    simp only [List.length_cons]
    omega
  have main : Dp n ts (i + 1) F (free.set p (pMul (free.getD p []) (whole free used v))) (used.set p (pAdd (pMul (used.getD p []) (whole free used v)) (pMul (free.getD p []) (free.getD v [])) 1)) found := by
    have ff : ∀ x u, fv x (free.set p (pMul (free.getD p []) (whole free used v))) u = if u = p then wv x free used v * fv x free p else fv x free u := fun x u => by
      unfold fv
      rw [getD_set, h.lf]
      by_cases q : u = p
      · rw [if_pos ⟨q, hpn⟩, if_pos q, ev_pMul, ev_whole]; exact Int.mul_comm _ _
      · rw [if_neg fun z => q z.1, if_neg q]
    have ww : ∀ x u, wv x (free.set p (pMul (free.getD p []) (whole free used v))) (used.set p (pAdd (pMul (used.getD p []) (whole free used v)) (pMul (free.getD p []) (free.getD v [])) 1)) u = if u = p then wv x free used v * wv x free used p + x * (fv x free v * fv x free p) else wv x free used u := fun x u => by
      have := ff x u
      unfold fv at this
      unfold wv
      rw [this, getD_set, h.lu]
      by_cases q : u = p
      · rw [if_pos q, if_pos ⟨q, hpn⟩, if_pos q, ev_pAdd, ev_pMul, ev_pMul, ev_whole]
        unfold wv fv
        grind
      · rw [if_neg q, if_neg fun z => q z.1, if_neg q]
    refine ⟨t1, fun u hu => h.lt u (hF u hu), by simpa using h.lf, by simpa using h.lu, fun x => ?_, fun l hl => ?_, fun l hl => ?_, ⟨h.no.1, h.no.2.1, by have := h.no.2.2; omega⟩, fun u hu => ?_, h.ofo⟩
    · have e := h.eq x
      have am := inside_among hw (nms (F ++ [(v, some p)]))
      rw [Wm_leaf x _ _ hvp _ _ nd am hv hp (fun g hg q => t5 g (by rw [nms_snoc] at hg; exact List.mem_filter.mpr ⟨hg, q⟩)) (by rw [nms_snoc]; exact t4)] at e
      have e1 : wo (nms (F ++ [(v, some p)])) v = nms F := by
        rw [nms_snoc]
        unfold wo
        rw [List.filter_append]
        simp
        exact fun a ha z => t2 (z ▸ ha)
      have e2 : wt (inside ts (nms (F ++ [(v, some p)]))) v = inside ts (nms F) := by rw [nms_snoc]; exact inside_wt t2
      rw [e1, e2] at e
      rw [Wm_change x (f := fv x free) (w := wv x free used) (p := p) (wv x free used v) (x * (fv x free v * fv x free p)) (by rw [ff, if_pos rfl]) (by rw [ww, if_pos rfl]) (fun u hu => ⟨by rw [ff, if_neg hu], by rw [ww, if_neg hu]⟩) _ _ (tree_nodup t1) (inside_among hw _) t3]
      exact e
    · rcases List.mem_or_eq_of_mem_set hl with hl | rfl
      · obtain ⟨a, b, c⟩ := h.nf l hl; exact ⟨a, b, by omega⟩
      · refine ⟨nn_mul hfp.1 hn, ?_, ?_⟩ <;> rw [pMul_len] <;> omega
    · rcases List.mem_or_eq_of_mem_set hl with hl | rfl
      · obtain ⟨a, b, c⟩ := h.nu l hl; exact ⟨a, b, by omega⟩
      · refine ⟨nn_add (nn_mul hup.1 hn) (nn_mul hfp.1 hfv.1), ?_, ?_⟩ <;> rw [pAdd_len, pMul_len, pMul_len] <;> omega
    · rw [ff]
      have h1 := h.one u (hF u hu)
      have h2 := h.one p hp
      have h3 := h.one v hv
      have h4 := (le_ev1 huv.1).2
      have h5 : 1 ≤ wv 1 free used v := by unfold wv; unfold fv at h3; omega
      by_cases q : u = p
      · rw [if_pos q]
        have : 1 * 1 ≤ wv 1 free used v * fv 1 free p := Int.mul_le_mul h5 h2 (by decide) (by omega)
        omega
      · rw [if_neg q]; exact h1
  refine ⟨main, bd_of (nn_mul hfp.1 hfv.1) ?_⟩
  have h1 := Int.le_trans ((main.ge hw).2 p t3) (M1_63 hl)
  unfold wv at h1
  rw [getD_set, getD_set, h.lf, h.lu, if_pos ⟨rfl, hpn⟩, if_pos ⟨rfl, hpn⟩, ev_pAdd] at h1
  have h2 := (le_ev1 (nn_mul hfp.1 hn)).2
  have h3 := (le_ev1 (nn_mul hup.1 hn)).2
  omega
theorem dp_end (h : Dp n ts i [] free used found) : (∀ x, ev x found = M x ts) ∧ found.length ≤ 2 ^ i := by
  refine ⟨fun x => ?_, h.no.2.2⟩
  have e := h.eq x
  have : inside ts (nms []) = [] := by
    unfold inside
    rw [List.filter_eq_nil_iff]
    intro e _
    simp [nms]
  rw [this, Wm_nil] at e
  simpa [nms, pr] using e
end
/-- the last that is not 0 ends it -/
theorem cut_counts {l : List Int} {ts : List Tie} {m : Nat} (h : ∀ x, ev x l = M x ts) (hm : m < l.length) (hn : l.getD m 0 ≠ 0) (hz : ∀ k, m < k → l.getD k 0 = 0) : l.take (m + 1) = mcount ts := by
  refine counts_unique ⟨l.getD m 0, ?_, hn⟩ fun x => ?_
  · rw [List.getLast?_eq_getElem?, List.length_take]
    have e : min (m + 1) l.length - 1 = m := by omega
    rw [e, List.getElem?_take_of_lt (by omega), List.getD_eq_getElem?_getD, List.getElem?_eq_getElem hm]
    rfl
  · rw [← h x]
    have e : l = l.take (m + 1) ++ l.drop (m + 1) := (List.take_append_drop _ _).symm
    have z : l.drop (m + 1) = List.replicate (l.length - (m + 1)) 0 := by
      apply List.ext_getElem
      · simp
      · intro k h1 h2
        rw [List.getElem_drop, List.getElem_replicate]
        have := hz (m + 1 + k) (by omega)
        rw [List.getD_eq_getElem?_getD, List.getElem?_eq_getElem (by simp at h1; omega)] at this
        exact this
    conv => rhs; rw [e]
    rw [ev_append, z, ev_zeros]
    simp
end K72
/-! K72W2: counts_within. -/
namespace K72
open PySem PySem.Spec L2 VL

def SgLeast : List D → D → Prop := fun ds d => ∃ (V : List Nat) (ts : List Tie), ts.length ≤ 100000 ∧ ds = [.tuple (V.map nD), .tuple (ts.map tD)] ∧ d = oD (least ts V (none, 0)).1
def SgSum : List D → List D → Prop := fun ds es => ∃ (a b : List Int) (t : Int), bd64 b ∧ t.natAbs < 2 ^ 64 ∧ a.length ≤ 100000 ∧ b.length ≤ 100000 ∧ ds = [.list (iD a), .list (iD b), .int t] ∧ es = iD (pAdd a b t)
def SgTimes : List D → List D → Prop := fun ds es => ∃ a b : List Int, bd64 a ∧ bd64 b ∧ a.length ≤ 100000 ∧ b.length ≤ 100000 ∧ 0 < a.length + b.length ∧ ds = [.list (iD a), .list (iD b)] ∧ es = iD (pMul a b)
def SgRing : List D → D → Prop := fun ds d => ∃ (n : Nat) (ts : List Tie), n ≤ 1000 ∧ Within n ts ∧ ds = [wD n ts] ∧ d = .bool (hasRing ts (List.range n))

/-! ### the stack of what is left -/
abbrev Ent := List Nat × List Tie × Nat
def eD (e : Ent) : D := .tuple [.tuple (e.1.map nD), .tuple (e.2.1.map tD), nD e.2.2]
theorem lf_eD (e : Ent) : lf (eD e) = true := lf_tuple (by simp only [lfs, lf_ties, lf_nD, lf_tuple (lfs_map fun (_ : Nat) => lf_nD), Bool.and_self])
theorem shp_eD (e : Ent) : Shp 3 (eD e) := shp_tup fun d hd => by
  rcases List.mem_cons.mp hd with rfl | hd
  · exact (shp_tup (n := 0) (shp_map fun _ => shp_int)).mono (by decide)
  rcases List.mem_cons.mp hd with rfl | hd
  · exact shp_tup (n := 1) (shp_map fun _ => shp_tD)
  · rw [List.mem_singleton.mp hd]; exact shp_int
def tot (x : Int) (st : List Ent) : Int := (st.map fun e => x ^ e.2.2 * M x e.2.1).sum
def mea (st : List Ent) : Nat := (st.map fun e => 65 ^ e.1.length).sum
def oth (v : Nat) (t : Tie) : Nat := t.1 + t.2 - v
/-- the stack may grow no further than so -/
def Low : List Ent → Prop
  | [] => True
  | e :: r => r.length + 64 * e.1.length ≤ 10000 ∧ Low r
structure EntOk (N : Nat) (e : Ent) : Prop where
  nd : e.1.Nodup
  am : Among e.1 e.2.1
  le : e.2.1.length ≤ 63
  sz : e.2.2 + e.1.length ≤ N
theorem oth_or {v : Nat} {t : Tie} (h : inc v t = true) : t = (v, oth v t) ∨ t = (oth v t, v) := by
  obtain ⟨a, b⟩ := t
  rcases inc_iff.mp h with h | h
  · left; simp only [oth] at *; subst h; simp
  · right; simp only [oth] at *; subst h; simp
/-- what is pushed for the ties of the name v -/
def push (v k : Nat) (V : List Nat) (R : List Tie) (t : Tie) : Ent := (V.filter fun x => !(x == v || x == oth v t), R.filter fun f => !inc (oth v t) f, k + 1)
def pushed (v k : Nat) (V : List Nat) (ts R : List Tie) (i : Nat) : List Ent := (((ts.take i).filter (inc v)).map (push v k V R)).reverse
theorem pushed_succ {v k : Nat} {V : List Nat} {ts R : List Tie} {i : Nat} {t : Tie} (h : ts[i]? = some t) : pushed v k V ts R (i + 1) = if inc v t = true then push v k V R t :: pushed v k V ts R i else pushed v k V ts R i := by
  unfold pushed
  rw [List.take_add_one, h, Option.toList_some, List.filter_append]
  by_cases q : inc v t = true
  · rw [if_pos q, List.filter_cons_of_pos q]
    simp
  · rw [if_neg q, List.filter_cons_of_neg q]
    simp
theorem pushed_len (v k : Nat) (V : List Nat) (ts R : List Tie) (i : Nat) : (pushed v k V ts R i).length ≤ ts.length := by
  unfold pushed
  rw [List.length_reverse, List.length_map]
  exact Nat.le_trans (List.length_filter_le _ _) (by rw [List.length_take]; omega)
theorem tot_step (x : Int) (v k : Nat) (V : List Nat) (ts : List Tie) : x ^ k * M x ts = x ^ k * M x (ts.filter fun e => !inc v e) + tot x (pushed v k V ts (ts.filter fun e => !inc v e) ts.length) := by
  have h1 : tot x (pushed v k V ts (ts.filter fun e => !inc v e) ts.length) = x ^ k * (x * ((ts.filter (inc v)).map fun e => M x ((ts.filter fun e => !inc v e).filter (dis e))).sum) := by
    unfold tot pushed
    rw [List.take_length, List.map_reverse, List.sum_reverse, List.map_map]
    have hc : ∀ l : List Tie, (∀ t ∈ l, inc v t = true) → (l.map ((fun e : Ent => x ^ e.2.2 * M x e.2.1) ∘ push v k V (ts.filter fun e => !inc v e))).sum = x ^ k * (x * (l.map fun e => M x ((ts.filter fun e => !inc v e).filter (dis e))).sum) := by
      intro l
      induction l with
      | nil => intro _; simp
      | cons t l ih =>
        intro h
        rw [List.map_cons, List.sum_cons, ih fun a ha => h a (by simp [ha]), List.map_cons, List.sum_cons]
        have e := dis_rest (oth_or (h t (by simp))) (R := ts.filter fun e => !inc v e) fun f hf => by simpa using (List.mem_filter.mp hf).2
        rw [e]
        simp only [Function.comp, push, Int.pow_succ]
        grind
    exact hc _ fun t ht => (List.mem_filter.mp ht).2
  rw [h1, M_name x v ts]
  grind
theorem tot_app (x : Int) (a b : List Ent) : tot x (a ++ b) = tot x a + tot x b := by simp [tot]
theorem mea_app (a b : List Ent) : mea (a ++ b) = mea a + mea b := by simp [mea]
theorem filter_len_lt {V : List Nat} {v : Nat} (h : v ∈ V) (p : Nat → Bool) (hp : p v = false) : (V.filter p).length + 1 ≤ V.length := by
  have h1 : (V.filter p).length ≤ (V.filter fun x => x != v).length := by
    have e : V.filter p = (V.filter fun x => x != v).filter p := by
      rw [List.filter_filter]
      apply List.filter_congr
      intro x hx
      by_cases q : x = v
      · subst q; simp [hp]
      · simp [q]
    rw [e]
    exact List.length_filter_le _ _
  have h2 : (V.filter fun x => x != v).length < V.length := by
    have h3 := List.length_filter_le (fun x => x != v) V
    rcases Nat.lt_or_eq_of_le h3 with q | q
    · exact q
    · have e := List.filter_sublist (p := fun x => x != v) (l := V)
      have e2 := e.eq_of_length q
      rw [← e2] at h
      have := (List.mem_filter.mp h).2
      simp at this
  omega
theorem mea_pushed {v k : Nat} {V : List Nat} {ts R : List Tie} (hv : v ∈ V) : ∀ i, mea (pushed v k V ts R i) ≤ (pushed v k V ts R i).length * 65 ^ (V.length - 1) := by
  intro i
  have all : ∀ l : List Ent, (∀ e ∈ l, e.1.length + 1 ≤ V.length) → mea l ≤ l.length * 65 ^ (V.length - 1) := by
    intro l
    induction l with
    | nil => intro _; simp [mea]
    | cons e l ih =>
      intro h
      have h1 := h e (by simp)
      have h2 := ih fun a ha => h a (by simp [ha])
      have h3 : 65 ^ e.1.length ≤ 65 ^ (V.length - 1) := Nat.pow_le_pow_right (by decide) (by omega)
      simp only [mea, List.map_cons, List.sum_cons, List.length_cons] at h2 ⊢
      have e1 : (l.length + 1) * 65 ^ (V.length - 1) = l.length * 65 ^ (V.length - 1) + 65 ^ (V.length - 1) := Nat.succ_mul _ _
      omega
  refine all _ fun e he => ?_
  unfold pushed at he
  obtain ⟨t, ht, rfl⟩ := List.mem_map.mp (List.mem_reverse.mp he)
  exact filter_len_lt hv _ (by simp)
theorem low_push {v k : Nat} {V : List Nat} {ts R : List Tie} (hv : v ∈ V) (hts : ts.length ≤ 63) {st : List Ent} (hl : st.length + 64 * V.length ≤ 10000) (h0 : Low st) :
    ∀ i, Low (pushed v k V ts R i ++ (V.filter (fun x => x != v), R, k) :: st) := by
  have h1 := filter_len_lt hv (fun x => x != v) (by simp)
  have all : ∀ l : List Ent, l.length ≤ 63 → (∀ e ∈ l, e.1.length + 1 ≤ V.length) → Low (l ++ (V.filter (fun x => x != v), R, k) :: st) := by
    intro l
    induction l with
    | nil => intro _ _; exact ⟨by show st.length + 64 * (V.filter fun x => x != v).length ≤ 10000; omega, h0⟩
    | cons e l ih =>
      intro hl' h
      refine ⟨?_, ih (by simp at hl'; omega) fun a ha => h a (by simp [ha])⟩
      have := h e (by simp)
      show (l ++ (V.filter (fun x => x != v), R, k) :: st).length + 64 * e.1.length ≤ 10000
      rw [List.length_append, List.length_cons]
      simp only [List.length_cons] at hl'
      omega
  intro i
  refine all _ (Nat.le_trans (pushed_len v k V ts R i) hts) fun e he => ?_
  unfold pushed at he
  obtain ⟨t, ht, rfl⟩ := List.mem_map.mp (List.mem_reverse.mp he)
  exact filter_len_lt hv _ (by simp)
theorem low_len : ∀ {st : List Ent}, Low st → st.length ≤ 10001
  | [], _ => by simp
  | e :: r, h => by have := h.1; simp only [List.length_cons]; omega
theorem among_nil {V : List Nat} {ts : List Tie} (h : Among V ts) (h0 : ∀ v ∈ V, deg ts v = 0) : ts = [] := by
  cases ts with
  | nil => rfl
  | cons e es =>
    exfalso
    have := h0 e.1 (h e (by simp)).1
    unfold deg at this
    rw [List.filter_cons_of_pos (by simp [inc])] at this
    simp at this
theorem among_mono {V W : List Nat} {ts us : List Tie} (h : Among V ts) (hs : ∀ e ∈ us, e ∈ ts) (hw : ∀ e ∈ us, e.1 ∈ W ∧ e.2 ∈ W) : Among W us := fun e he => ⟨(hw e he).1, (hw e he).2, (h e (hs e he)).2.2⟩
theorem can_add0 {a b : List Int} (ha : ∀ k, 0 ≤ a.getD k 0) (hl : a.length ≤ b.length) (hb : Can b) : Can (pAdd a b 1) := by
  obtain ⟨b0, b1, b2⟩ := can_get hb
  refine can_ext (fun k => ?_) (by rw [pAdd_len]; omega) ?_
  · rw [pAdd_get]; have := ha k; have := b0 k; omega
  · rw [pAdd_get, pAdd_len, Nat.max_eq_right hl]
    have := ha (b.length - 1)
    omega
theorem can_mono (k : Nat) : Can (List.replicate k 0 ++ [1]) := by
  refine ⟨fun c hc => ?_, 1, by simp, by decide⟩
  rcases List.mem_append.mp hc with hc | hc
  · rw [List.eq_of_mem_replicate hc]; decide
  · rw [List.mem_singleton.mp hc]; decide
theorem ev_mono (x : Int) (k : Nat) : ev x (List.replicate k 0 ++ [1]) = x ^ k := by
  rw [ev_append, ev_zeros, List.length_replicate]
  simp [ev]
/-- the state between two turns -/
structure CwOk (x0 : Int → Int) (N : Nat) (found : List Int) (st : List Ent) : Prop where
  eq : ∀ x, ev x found + tot x st = x0 x
  can : found = [0] ∨ Can found
  len : found.length ≤ N + 1
  ok : ∀ e ∈ st, EntOk N e
  low : Low st

theorem cw_none {x0 : Int → Int} {N : Nat} {found : List Int} {st : List Ent} {V : List Nat} {ts : List Tie} {k : Nat} (h : CwOk x0 N found ((V, ts, k) :: st)) (h0 : ∀ v ∈ V, deg ts v = 0) : CwOk x0 N (pAdd found (List.replicate k 0 ++ [1]) 1) st := by
  have o : EntOk N (V, ts, k) := h.ok _ (by simp)
  have e : ts = [] := among_nil o.am h0
  refine ⟨fun x => ?_, .inr ?_, ?_, fun e he => h.ok e (by simp [he]), h.low.2⟩
  · rw [← h.eq x, ev_pAdd, ev_mono]
    have : tot x ((V, ts, k) :: st) = x ^ k * M x ts + tot x st := by simp [tot]
    rw [this, e, M_nil]
    grind
  · rcases h.can with q | q
    · rw [q]
      refine can_add0 (fun k => ?_) (by simp) (can_mono k)
      cases k <;> simp
    · exact can_add q (can_mono k) (by decide)
  · have h1 := h.len
    have h2 := o.sz
    rw [pAdd_len]
    simp only [List.length_append, List.length_replicate, List.length_cons, List.length_nil] at h2 ⊢
    omega
theorem cw_some {x0 : Int → Int} {N : Nat} {found : List Int} {st : List Ent} {V : List Nat} {ts : List Tie} {k v : Nat} (h : CwOk x0 N found ((V, ts, k) :: st)) (hv : v ∈ V) :
    CwOk x0 N found (pushed v k V ts (ts.filter fun e => !inc v e) ts.length ++ (V.filter (fun x => x != v), ts.filter fun e => !inc v e, k) :: st) ∧
      mea (pushed v k V ts (ts.filter fun e => !inc v e) ts.length ++ (V.filter (fun x => x != v), ts.filter fun e => !inc v e, k) :: st) < mea ((V, ts, k) :: st) := by
  have o : EntOk N (V, ts, k) := h.ok _ (by simp)
  have hlv := filter_len_lt hv (fun x => x != v) (by simp)
  have noV : ∀ e ∈ ts.filter (fun e => !inc v e), e.1 ≠ v ∧ e.2 ≠ v := fun e he => by
    have := (List.mem_filter.mp he).2
    simp only [Bool.not_eq_true'] at this
    constructor
    · intro q; rw [inc_iff.mpr (.inl q)] at this; cases this
    · intro q; rw [inc_iff.mpr (.inr q)] at this; cases this
  refine ⟨⟨fun x => ?_, h.can, h.len, fun e he => ?_, low_push hv o.le h.low.1 h.low.2 _⟩, ?_⟩
  · rw [← h.eq x, tot_app]
    have e1 : tot x ((V, ts, k) :: st) = x ^ k * M x ts + tot x st := by simp [tot]
    have e2 : tot x ((V.filter (fun x => x != v), ts.filter fun e => !inc v e, k) :: st) = x ^ k * M x (ts.filter fun e => !inc v e) + tot x st := by simp [tot]
    rw [e1, e2, tot_step x v k V ts]
    omega
  · rcases List.mem_append.mp he with he | he
    · unfold pushed at he
      obtain ⟨t, ht, rfl⟩ := List.mem_map.mp (List.mem_reverse.mp he)
      have ht2 := List.mem_filter.mp ht
      have htm := List.mem_of_mem_take ht2.1
      have ha := o.am t htm
      -- two names go
      have h2 : (push v k V (ts.filter fun e => !inc v e) t).1.length + 2 = V.length := by
        have e : (push v k V (ts.filter fun e => !inc v e) t).1 = less V t := by
          unfold push less
          apply List.filter_congr
          intro x _
          have ho := oth_or ht2.2
          have hvo : (inc x t) = (x == v || x == oth v t) := by
            rw [Bool.eq_iff_iff]
            simp only [inc_iff, Bool.or_eq_true, beq_iff_eq]
            rcases ho with ho | ho <;> rw [ho] <;> simp only [oth]
            · constructor <;> rintro (q | q) <;> first | (left; omega) | (right; omega)
            · constructor <;> rintro (q | q) <;> first | (left; omega) | (right; omega)
          rw [hvo]
        rw [e]
        exact less_len o.nd ha.1 ha.2.1 ha.2.2
      refine ⟨o.nd.filter _, ?_, Nat.le_trans (List.length_filter_le _ _) (Nat.le_trans (List.length_filter_le _ _) o.le), ?_⟩
      · refine among_mono o.am (fun e he => (List.mem_filter.mp (List.mem_filter.mp he).1).1) fun e he => ?_
        obtain ⟨h3, h4⟩ := List.mem_filter.mp he
        obtain ⟨n1, n2⟩ := noV e h3
        have h5 := o.am e (List.mem_filter.mp h3).1
        simp only [Bool.not_eq_true'] at h4
        have m1 : e.1 ≠ oth v t := fun q => by rw [inc_iff.mpr (.inl q)] at h4; cases h4
        have m2 : e.2 ≠ oth v t := fun q => by rw [inc_iff.mpr (.inr q)] at h4; cases h4
        exact ⟨List.mem_filter.mpr ⟨h5.1, by simp [n1, m1]⟩, List.mem_filter.mpr ⟨h5.2.1, by simp [n2, m2]⟩⟩
      · have := o.sz
        show k + 1 + _ ≤ N
        simp only at this h2
        omega
    · rcases List.mem_cons.mp he with rfl | he
      · refine ⟨o.nd.filter _, ?_, Nat.le_trans (List.length_filter_le _ _) o.le, ?_⟩
        · refine among_mono o.am (fun e he => (List.mem_filter.mp he).1) fun e he => ?_
          obtain ⟨n1, n2⟩ := noV e he
          have h5 := o.am e (List.mem_filter.mp he).1
          exact ⟨List.mem_filter.mpr ⟨h5.1, by simp [n1]⟩, List.mem_filter.mpr ⟨h5.2.1, by simp [n2]⟩⟩
        · have := o.sz
          show k + (V.filter fun x => x != v).length ≤ N
          simp only at this
          omega
      · exact h.ok e (by simp [he])
  · rw [mea_app]
    have h1 := mea_pushed (k := k) (ts := ts) (R := ts.filter fun e => !inc v e) hv ts.length
    have h2 := pushed_len v k V ts (ts.filter fun e => !inc v e) ts.length
    have h3 : 65 ^ (V.filter fun x => x != v).length ≤ 65 ^ (V.length - 1) := Nat.pow_le_pow_right (by decide) (by omega)
    have hpos := List.length_pos_of_mem hv
    have h4 : 65 ^ V.length = 65 * 65 ^ (V.length - 1) := by
      have : V.length = V.length - 1 + 1 := by omega
      rw [this, Nat.pow_succ, Nat.mul_comm]
      simp
    have h5 : mea ((V, ts, k) :: st) = 65 ^ V.length + mea st := by simp [mea]
    have h6 : mea ((V.filter (fun x => x != v), ts.filter fun e => !inc v e, k) :: st) = 65 ^ (V.filter fun x => x != v).length + mea st := by simp [mea]
    have h7 : 0 < 65 ^ (V.length - 1) := Nat.pow_pos (by decide)
    have h8 : (pushed v k V ts (ts.filter fun e => !inc v e) ts.length).length * 65 ^ (V.length - 1) ≤ 63 * 65 ^ (V.length - 1) := Nat.mul_le_mul_right _ (Nat.le_trans h2 o.le)
    rw [h5, h6, h4]
    omega
theorem cw_end {ts : List Tie} {N : Nat} {found : List Int} (h : CwOk (fun x => M x ts) N found []) : found = mcount ts := by
  have hc : Can found := by
    rcases h.can with q | q
    · exfalso
      have := h.eq 1
      rw [q] at this
      have h1 := (M1_le ts).1
      simp [ev, tot] at this
      omega
    · exact q
  exact counts_unique hc.tip fun x => by have := h.eq x; simp [tot] at this; exact this

theorem eqv_nil (l : List D) : PyData.eqv (.list l) (.list []) = decide (l = []) := by
  cases l <;> simp [PyData.eqv, PyData.eqvAll]
theorem eqv_nilE (st : List Ent) : (!PyData.eqv (.list (st.reverse.map eD)) (.list [])) = !decide (st = []) := by
  rw [eqv_nil]
  cases st <;> simp
theorem rest_ev {K : PySem.W.Frag} {env : VL.Env} {ts : List Tie} {v j i c : Nat} (hl : ts.length ≤ 100000) (hi : EvD K (tVar i) env (.tuple (ts.map tD))) (hv : ∀ t, EvD K (tVar j) (putEnv (clr env [c]) [(c, tD t)]) (nD v)) (hc : ∀ t, EvD K (tVar c) (putEnv (clr env [c]) [(c, tD t)]) (tD t)) :
    EvD K (tCB (rTupleQ K) (tCons (tLc (iSeq K (tVar i)) (gName c) (tTest (tOp (rInQ K true) (tVar j) (tVar c))) (tVar c) [c]) tNil)) env (.tuple ((ts.filter fun e => !inc v e).map tD)) := by
  refine ev_tupleL (ef_lc (xs := ts) (enc := tD) (ei_tup hi) (fun e => !inc v e) tD (by omega) fun t ht => ⟨_, bd_name, by simp, eb_test ((ev_inT (ds := [.int (t.1 : Nat), .int (t.2 : Nat)]) (hv t) (hc t) (shp_int (n := 0)).sh (shp_lst (n := 0) ?_).sh).cast ?_), fun _ => ⟨hc t, lf_tD⟩⟩).dd
  · intro d hd
    rcases List.mem_cons.mp hd with rfl | hd
    · exact shp_int
    · rw [List.mem_singleton.mp hd]; exact shp_int
  · rw [if_pos rfl, any_tD]
    rfl
def SgWithin : List D → List D → Prop := fun ds es => ∃ (n : Nat) (ts : List Tie), n ≤ 100 ∧ Within n ts ∧ ts.length ≤ 63 ∧ ds = [.list ((List.range n).map nD), .tuple (ts.map tD)] ∧ es = iD (mcount ts)
theorem w_counts_within {K : PySem.W.Frag} {H : Hp} {Q : VK} {n : Nat} {ts : List Tie} (hn : n ≤ 100) (hw : Within n ts) (hl : ts.length ≤ 63)
    (hr : ∀ env p xs σ H', R K H env σ H' → H p = none → H' p = some (.lst xs) → Dqs K H' xs (iD (mcount ts)) → Q (.ref p) H') :
    WpS K H (rd_counts_within K (spD K SgLeast) (spF K SgSum)) (env0 14 [.list ((List.range n).map nD), .tuple (ts.map tD)]) { nx := fun _ => False, rt := Q } := by
  unfold rd_counts_within
  have lN : lfs ((List.range n).map nD) = true := lfs_map fun _ => lf_nD
  refine ws_s (ws_par (s1 := .ow (iD [0])) (s2 := .ow (([((List.range n, ts, 0) : Ent)].reverse).map eD)) (es_f (ef_lst (ea_cons ev_int ea_nil)) (by simp [lf, lfs])) (es_f (ef_lst (ea_cons (ev_tup (ds := [.tuple ((List.range n).map nD), .tuple (ts.map tD), nD 0]) (ea_cons (ev_tupleL ev_v) (ea_cons (ev_tupleT ev_v) (ea_cons ev_int ea_nil))) (by show 3 ≤ sizeLine; decide)) ea_nil) (by show 1 ≤ sizeLine; decide)) (lfs_map (xs := [((List.range n, ts, 0) : Ent)]) lf_eD)) (by decide) rfl) ?_
  refine ws_seq (M := fun e => ∃ found : List Int, e = [.im (.list ((List.range n).map nD)), .im (.tuple (ts.map tD)), .ow (iD found), .ow [], .no, .no, .no, .no, .no, .no, .no, .no, .no, .no] ∧ CwOk (fun x => M x ts) n found []) ?_ ?_
  · refine ws_while (I := fun e => ∃ (found : List Int) (st : List Ent), e = [.im (.list ((List.range n).map nD)), .im (.tuple (ts.map tD)), .ow (iD found), .ow (st.reverse.map eD), .no, .no, .no, .no, .no, .no, .no, .no, .no, .no] ∧ CwOk (fun x => M x ts) n found st)
      (μ := fun e => match e with | [_, _, _, .ow l, _, _, _, _, _, _, _, _, _, _] => (l.map fun d => match d with | .tuple [.tuple V, _, _] => 65 ^ V.length | _ => 0).sum | _ => 0) ?_ ?_
    · refine ⟨[0], [(List.range n, ts, 0)], rfl, fun x => ?_, .inl rfl, by simp, fun e he => ?_, ?_⟩
      · simp [ev, tot]
      · rw [List.mem_singleton.mp he]
        exact ⟨List.nodup_range, within_among hw, hl, by simp⟩
      · refine ⟨?_, trivial⟩
        simp; omega
    · rintro e ⟨found, st, rfl, ok⟩
      refine ⟨!decide (st = []), eb_test ((ev_ne ev_v (ef_lst ea_nil).dd ((shp_lst (n := 3) (shp_map shp_eD)).sh) ((shp_lst (n := 0) (ds := []) (by simp)).sh)).cast (by rw [eqv_nilE])), fun hb => ?_, fun hb => ?_⟩
      · have hmea : ∀ st : List Ent, ((st.reverse.map eD).map fun d => match d with | .tuple [.tuple V, _, _] => 65 ^ V.length | _ => 0).sum = mea st := fun st => by
          rw [List.map_map, List.map_reverse, List.sum_reverse]
          unfold mea
          congr 1
          apply List.map_congr_left
          intro e _
          simp [eD]
        cases st with
        | nil => simp at hb
        | cons en st =>
          obtain ⟨V, us, k⟩ := en
          have o : EntOk n (V, us, k) := ok.ok _ (by simp)
          have hrev : (((V, us, k) :: st).reverse.map eD) = st.reverse.map eD ++ [eD (V, us, k)] := by simp
          have hVn : V.length ≤ 100 := by have h1 : k + V.length ≤ n := o.sz; omega
          have hus : us.length ≤ 63 := o.le
          have hk : k ≤ 100 := by have h1 : k + V.length ≤ n := o.sz; omega
          simp only [hmea]
          rw [hrev]
          refine ws_s (e := [.im (.list ((List.range n).map nD)), .im (.tuple (ts.map tD)), .ow (iD found), .ow (st.reverse.map eD), .im (.tuple (V.map nD)), .im (.tuple (us.map tD)), .im (nD k), .no, .no, .no, .no, .no, .no, .no]) (ws_pop (n := 3) rfl (bd_tup (bds_cons bd_name (bds_cons bd_name (bds_cons bd_name bds_nil)))) rfl) ?_
          refine ws_s (ws_asg (s := .im (oD (least us V (none, 0)).1)) (es_lf (ev_call (ea_cons ev_v (ea_cons ev_v ea_nil)) ⟨V, us, by omega, rfl, rfl⟩) (lf_oD _)) rfl) ?_
          have sp := least_spec us V (none, 0) (fun _ => rfl) (fun v q => by cases q)
          cases hL : (least us V (none, 0)).1 with
          | none =>
            rw [hL] at sp
            have ok' := cw_none ok sp.2
            refine ws_if (b := true) (eb_test (ev_isN (d := oD none) ev_v)) (fun _ => ?_) (fun q => by cases q)
            refine ws_asg (s := .ow (iD (pAdd found (List.replicate k 0 ++ [1]) 1))) (es_f (ef_call (ea_cons ev_v (ea_cons ((ef_cat (ef_rep1 (d := .int 0) (ef_lst (ea_cons ev_int ea_nil)).dd ev_v (by omega) (by omega)).dd (ef_lst (ea_cons ev_int ea_nil)).dd ?_).dd.cast ?_) (ea_cons ev_int ea_nil))) ⟨found, List.replicate k 0 ++ [1], 1, ?_, by decide, ?_, ?_, rfl, rfl⟩) (lfs_ints _)) ?_
            · refine Nat.le_trans (m := 100000) ?_ (by decide)
              simp; omega
            · simp [iD]
            · intro c hc
              rcases List.mem_append.mp hc with hc | hc
              · rw [List.eq_of_mem_replicate hc]; decide
              · rw [List.mem_singleton.mp hc]; decide
            · have := ok.len; omega
            · simp; omega
            · refine ⟨[.im (.list ((List.range n).map nD)), .im (.tuple (ts.map tD)), .ow (iD (pAdd found (List.replicate k 0 ++ [1]) 1)), .ow (st.reverse.map eD), .no, .no, .no, .no, .no, .no, .no, .no, .no, .no], .same (.same (.same (.same (.drop (.drop (.drop (.drop (.same (.same (.same (.same (.same (.same .nil))))))))))))), ⟨_, st, rfl, ok'⟩, ?_⟩
              simp only [hmea]
              have : mea ((V, us, k) :: st) = 65 ^ V.length + mea st := by simp [mea]
              rw [this]
              have : 0 < 65 ^ V.length := Nat.pow_pos (by decide)
              omega
          | some v =>
            rw [hL] at sp
            have hv : v ∈ V := sp.elim id fun q => by cases q
            obtain ⟨ok', hlt⟩ := cw_some ok hv
            refine ws_if (b := false) (eb_test (ev_isN (d := oD (some v)) ev_v)) (fun q => by cases q) (fun _ => ?_)
            refine ws_s (ws_asg (s := .im (.tuple ((us.filter fun e => !inc v e).map tD))) (es_lf (rest_ev (v := v) (by omega) ev_v (fun _ => ev_v) (fun _ => ev_v)) (lf_ties _)) rfl) ?_
            refine ws_s (e := [.im (.list ((List.range n).map nD)), .im (.tuple (ts.map tD)), .ow (iD found), .ow ((pushed v k V us (us.filter fun e => !inc v e) 0 ++ (V.filter (fun x => x != v), us.filter fun e => !inc v e, k) :: st).reverse.map eD), .im (.tuple (V.map nD)), .im (.tuple (us.map tD)), .im (nD k), .im (nD v), .im (.tuple ((us.filter fun e => !inc v e).map tD)), .no, .no, .no, .no, .no]) (ws_append (n := 3) (d := eD (V.filter (fun x => x != v), us.filter fun e => !inc v e, k)) rfl (ev_tup (ea_cons (ev_tupleL (ef_lc (xs := V) (enc := nD) (ei_tup ev_v) (fun x => x != v) nD (by omega) fun x hx => ⟨_, bd_name, by simp, eb_test ((ev_ne ev_v ev_v (shp_int (n := 0)).sh (shp_int (n := 0)).sh).cast ?_), fun _ => ⟨ev_v, lf_nD⟩⟩).dd) (ea_cons ev_v (ea_cons ev_v ea_nil)))) (lf_eD _) ?_ ?_) ?_
            · rw [eqv_nD]; rfl
            · have := low_len ok.low; simp at this ⊢; omega
            · simp [pushed, eD]; rfl
            · refine ws_forE (ev := fun i => [.im (.list ((List.range n).map nD)), .im (.tuple (ts.map tD)), .ow (iD found), .ow ((pushed v k V us (us.filter fun e => !inc v e) i ++ (V.filter (fun x => x != v), us.filter fun e => !inc v e, k) :: st).reverse.map eD), .im (.tuple (V.map nD)), .im (.tuple (us.map tD)), .im (nD k), .im (nD v), .im (.tuple ((us.filter fun e => !inc v e).map tD)), .no, .no, .no, .no, .no]) (ez_tup (ez_lf ev_v (lf_ties us))) (Fg.refl _) (fun i d hd => ?_) ?_
              · obtain ⟨t, ht, rfl⟩ := map_at hd
                have hps := pushed_succ (v := v) (k := k) (V := V) (R := us.filter fun e => !inc v e) ht
                refine ⟨_, bd_name, ?_⟩
                have hin : EvB K (tTest (tOp (rInQ K false) (tVar 7) (tVar 9))) (putEnv [.im (.list ((List.range n).map nD)), .im (.tuple (ts.map tD)), .ow (iD found), .ow ((pushed v k V us (us.filter fun e => !inc v e) i ++ (V.filter (fun x => x != v), us.filter fun e => !inc v e, k) :: st).reverse.map eD), .im (.tuple (V.map nD)), .im (.tuple (us.map tD)), .im (nD k), .im (nD v), .im (.tuple ((us.filter fun e => !inc v e).map tD)), .no, .no, .no, .no, .no] [(9, tD t)]) (inc v t) := by
                  refine eb_test ((ev_inT (ds := [.int (t.1 : Nat), .int (t.2 : Nat)]) ev_v ev_v (shp_int (n := 0)).sh (shp_lst (n := 0) ?_).sh).cast ?_)
                  · intro d hd
                    rcases List.mem_cons.mp hd with rfl | hd
                    · exact shp_int
                    · rw [List.mem_singleton.mp hd]; exact shp_int
                  · rw [if_neg (by simp), any_tD]; rfl
                refine ws_if hin (fun q => ?_) (fun q => ?_)
                · rw [if_pos q] at hps
                  have ho : ((t.1 : Nat) : Int) + ((t.2 : Nat) : Int) - ((v : Nat) : Int) = ((oth v t : Nat) : Int) := by
                    rcases inc_iff.mp q with z | z <;> simp only [oth] <;> omega
                  refine ws_s (ws_asg (s := .im (nD (oth v t))) (es_lf ((ev_sub (ev_add (ev_ixT ev_v ev_int rfl) (ev_ixT ev_v ev_int rfl)) ev_v).cast (by rw [ho])) lf_nD) rfl) ?_
                  refine ws_s (ws_asg (s := .im (.tuple (((us.filter fun e => !inc v e).filter fun e => !inc (oth v t) e).map tD))) (es_lf (rest_ev (v := oth v t) (by have := List.length_filter_le (fun e => !inc v e) us; omega) ev_v (fun _ => ev_v) (fun _ => ev_v)) (lf_ties _)) rfl) ?_
                  refine ws_append (n := 3) (d := eD (push v k V (us.filter fun e => !inc v e) t)) rfl (ev_tup (ea_cons (ev_tupleL (ef_lc (xs := V) (enc := nD) (ei_tup ev_v) (fun x => !(x == v || x == oth v t)) nD (by omega) fun x hx => ⟨_, bd_name, by simp, eb_test ((ev_inT (ds := [nD v, nD (oth v t)]) ev_v (ev_tup (ea_cons ev_v (ea_cons ev_v ea_nil))) (shp_int (n := 0)).sh (shp_lst (n := 0) ?_).sh).cast ?_), fun _ => ⟨ev_v, lf_nD⟩⟩).dd) (ea_cons ev_v (ea_cons ((ev_add ev_v ev_int).cast ?_) ea_nil)))) (lf_eD _) ?_ ?_
                  · intro d hd
                    rcases List.mem_cons.mp hd with rfl | hd
                    · exact shp_int
                    · rw [List.mem_singleton.mp hd]; exact shp_int
                  · rw [if_pos rfl]
                    simp only [List.any_cons, List.any_nil, eqv_nD, Bool.or_false]
                    congr 2
                    rw [Bool.eq_iff_iff]
                    simp only [Bool.or_eq_true, decide_eq_true_eq, beq_iff_eq]
                    exact ⟨fun h => h.imp Eq.symm Eq.symm, fun h => h.imp Eq.symm Eq.symm⟩
                  · simp [nD, push]
                  · have h1 := pushed_len v k V us (us.filter fun e => !inc v e) i
                    have h2 := low_len ok.low
                    simp only [List.length_cons] at h2
                    simp only [List.length_map, List.length_reverse, List.length_append, List.length_cons]
                    omega
                  · refine .same (.same (.same ?_))
                    have e : ((pushed v k V us (us.filter fun e => !inc v e) i ++ (V.filter (fun x => x != v), us.filter fun e => !inc v e, k) :: st).reverse.map eD) ++ [eD (push v k V (us.filter fun e => !inc v e) t)] = (pushed v k V us (us.filter fun e => !inc v e) (i + 1) ++ (V.filter (fun x => x != v), us.filter fun e => !inc v e, k) :: st).reverse.map eD := by
                      rw [hps]; simp
                    rw [e]
                    exact .same (.same (.same (.same (.same (.same (.drop (.drop (.drop (.same (.same .nil))))))))))
                · rw [if_neg (by rw [q]; simp)] at hps
                  refine ws_next ?_
                  simp only [hps]
                  exact .same (.same (.same (.same (.same (.same (.same (.same (.same (.drop (.same (.same (.same (.same .nil)))))))))))))
              · refine ⟨[.im (.list ((List.range n).map nD)), .im (.tuple (ts.map tD)), .ow (iD found), .ow ((pushed v k V us (us.filter fun e => !inc v e) us.length ++ (V.filter (fun x => x != v), us.filter fun e => !inc v e, k) :: st).reverse.map eD), .no, .no, .no, .no, .no, .no, .no, .no, .no, .no], ?_, ⟨found, _, rfl, ok'⟩, ?_⟩
                · rw [List.length_map]
                  exact .same (.same (.same (.same (.drop (.drop (.drop (.drop (.drop (.same (.same (.same (.same (.same .nil)))))))))))))
                · simp only [hmea]
                  exact hlt
      · cases st with
        | nil => exact ⟨found, rfl, ok⟩
        | cons => simp at hb
  · rintro e ⟨found, rfl, ok⟩
    refine ws_retO (n := 2) rfl fun p xs σ H' r n hp hd => hr _ p xs σ H' r n hp ?_
    rw [cw_end ok] at hd
    exact hd
end K72
/-! K72W3: names_by_ways. -/
namespace K72
open PySem PySem.Spec L2 VL

abbrev rwD (x : Nat × Option Nat) : D := .tuple [nD x.1, oD x.2]
theorem lf_rwD (x : Nat × Option Nat) : lf (rwD x) = true := lf_tuple (by simp only [lfs, lf_nD, lf_oD, Bool.and_self])
theorem shp_oD {n : Nat} (o : Option Nat) : Shp n (oD o) := by
  cases o
  · exact shp_none
  · exact shp_int
theorem shp_rwD {n : Nat} (x : Nat × Option Nat) : Shp (n + 1) (rwD x) := shp_tup fun d hd => by
  rcases List.mem_cons.mp hd with rfl | hd
  · exact shp_int
  · rw [List.mem_singleton.mp hd]; exact shp_oD _
theorem adj_comm {ts : List Tie} {u v : Nat} : adj ts u v ↔ adj ts v u := Or.comm
/-- what is known of the names that are seen -/
def sk (v : Nat) : Key × V := (.inl (v : Int), .bl true)
theorem val_sk (v : Nat) : ∀ S : List Nat, (valV (S.map sk) (.inl (v : Int))).isSome = decide (v ∈ S)
  | [] => by simp [valV_nil]
  | u :: S => by
    rw [List.map_cons]
    by_cases h : u = v
    · subst h
      rw [valV_pos (p := sk u) (r := S.map sk) (k := .inl (u : Int)) rfl]; simp [sk]
    · rw [valV_neg (p := sk u) (r := S.map sk) (k := .inl (v : Int)) (fun q => h (by have := Sum.inl.inj q; omega)), val_sk v S]
      have : v ≠ u := Ne.symm h
      simp [this]
theorem put_sk {v : Nat} {S : List Nat} (h : v ∉ S) : putK (S.map sk) (.inl (v : Int)) (.bl true) = (S ++ [v]).map sk := by
  have h1 := val_sk v S
  rw [decide_eq_false h] at h1
  rw [putK_new _ (by cases q : valV (S.map sk) (.inl (v : Int)) with | none => rfl | some z => rw [q] at h1; cases h1)]
  simp [sk]
/-- the lists of who is tied to whom -/
structure Near (n : Nat) (ts : List Tie) (i : Nat) (nr : List (List Nat)) : Prop where
  len : nr.length = n
  iff : ∀ v, v < n → ∀ u, u ∈ nr.getD v [] ↔ adj (ts.take i) u v
  le : ∀ v, (nr.getD v []).length ≤ 2 * i
theorem near_start (n : Nat) (ts : List Tie) : Near n ts 0 (List.replicate n []) := by
  have g : ∀ v, (List.replicate n ([] : List Nat)).getD v [] = [] := fun v => by
    rw [List.getD_eq_getElem?_getD, List.getElem?_replicate]
    split <;> rfl
  exact ⟨by simp, fun v hv u => by rw [g]; simp [adj], fun v => by rw [g]; simp⟩
theorem near_step {n : Nat} {ts : List Tie} {i : Nat} {nr : List (List Nat)} {t : Tie} (h : Near n ts i nr) (ht : ts[i]? = some t) (h1 : t.1 < n) (h2 : t.2 < n) (h3 : t.1 ≠ t.2) :
    Near n ts (i + 1) ((nr.set t.1 (nr.getD t.1 [] ++ [t.2])).set t.2 ((nr.set t.1 (nr.getD t.1 [] ++ [t.2])).getD t.2 [] ++ [t.1])) := by
  have g2 : (nr.set t.1 (nr.getD t.1 [] ++ [t.2])).getD t.2 [] = nr.getD t.2 [] := by
    rw [getD_set, if_neg fun z => h3 z.1.symm]
  have get : ∀ v, ((nr.set t.1 (nr.getD t.1 [] ++ [t.2])).set t.2 (nr.getD t.2 [] ++ [t.1])).getD v [] = if v = t.2 then nr.getD t.2 [] ++ [t.1] else if v = t.1 then nr.getD t.1 [] ++ [t.2] else nr.getD v [] := fun v => by
    rw [getD_set, getD_set, List.length_set, h.len]
    by_cases q : v = t.2
    · rw [if_pos ⟨q, h2⟩, if_pos q]
    · rw [if_neg fun z => q z.1, if_neg q]
      by_cases q' : v = t.1
      · rw [if_pos ⟨q', h1⟩, if_pos q']
      · rw [if_neg fun z => q' z.1, if_neg q']
  have tk : ts.take (i + 1) = ts.take i ++ [t] := by rw [List.take_add_one, ht]; rfl
  rw [g2]
  refine ⟨by simp [h.len], fun v hv u => ?_, fun v => ?_⟩
  · rw [get, tk]
    have ha : adj (ts.take i ++ [t]) u v ↔ adj (ts.take i) u v ∨ ((u, v) = t ∨ (v, u) = t) := by
      unfold adj
      simp only [List.mem_append, List.mem_singleton]
      constructor
      · rintro ((a | a) | (a | a))
        · exact .inl (.inl a)
        · exact .inr (.inl a)
        · exact .inl (.inr a)
        · exact .inr (.inr a)
      · rintro ((a | a) | (a | a))
        · exact .inl (.inl a)
        · exact .inr (.inl a)
        · exact .inl (.inr a)
        · exact .inr (.inr a)
    rw [ha, ← h.iff v hv u]
    obtain ⟨a, b⟩ := t
    simp only [Prod.mk.injEq] at *
    by_cases q : v = b
    · subst q
      rw [if_pos rfl, List.mem_append, List.mem_singleton]
      constructor
      · rintro (z | z)
        · exact .inl z
        · exact .inr (.inl ⟨z, rfl⟩)
      · rintro (z | z | z)
        · exact .inl z
        · exact .inr z.1
        · exact absurd z.1.symm h3
    · rw [if_neg q]
      by_cases q' : v = a
      · subst q'
        rw [if_pos rfl, List.mem_append, List.mem_singleton]
        constructor
        · rintro (z | z)
          · exact .inl z
          · exact .inr (.inr ⟨rfl, z⟩)
        · rintro (z | z | z)
          · exact .inl z
          · exact absurd z.2 q
          · exact .inr z.2
      · rw [if_neg q']
        constructor
        · exact .inl
        · rintro (z | z | z)
          · exact z
          · exact absurd z.2 q
          · exact absurd z.1 q'
  · rw [get]
    have l1 := h.le t.1
    have l2 := h.le t.2
    have l3 := h.le v
    split
    · simp only [List.length_append, List.length_cons, List.length_nil]; omega
    · split
      · simp only [List.length_append, List.length_cons, List.length_nil]; omega
      · omega

/-- between two turns of the inner walk: the name v is being worked at (none: no name is) -/
structure Dfs (n : Nat) (ts : List Tie) (i : Nat) (at' : Option Nat) (done : Nat → Prop) (F : Row) (S : List Nat) (Ln : Row) : Prop where
  good : Good ts F
  nd : (nms F ++ nms Ln).Nodup
  lt : ∀ v ∈ nms F ++ nms Ln, v < n
  sm : ∀ v, v ∈ S ↔ v ∈ nms F ++ nms Ln
  sl : S.length = F.length + Ln.length
  cl : ∀ v ∈ nms F, some v ≠ at' → ∀ u, adj ts u v → u ∈ nms F ++ nms Ln
  ca : ∀ v, at' = some v → ∀ u, done u → u ∈ nms F ++ nms Ln
  en : (∃ r, Ln = [(r, none)] ∧ ∀ v ∈ nms F, ∀ u, adj ts u v → u ∈ nms F) ∨ ∀ x ∈ Ln, ∃ p, x.2 = some p ∧ p ∈ nms F ∧ adj ts p x.1
  al : ∀ r, r < i → r ∈ nms F ++ nms Ln
theorem Dfs.card {n : Nat} {ts : List Tie} {i : Nat} {a : Option Nat} {dn : Nat → Prop} {F : Row} {S : List Nat} {Ln : Row} (h : Dfs n ts i a dn F S Ln) : F.length + Ln.length ≤ n := by
  have := sub_len (B := List.range n) h.nd fun v hv => List.mem_range.mpr (h.lt v hv)
  simp only [List.length_append, nms, List.length_map, List.length_range] at this
  exact this
/-- a name is taken from the line -/
theorem dfs_pop {n : Nat} {ts : List Tie} {i : Nat} {F : Row} {S : List Nat} {Ln : Row} {v : Nat} {a : Option Nat} (h : Dfs n ts i none (fun _ => False) F S (Ln ++ [(v, a)])) : Dfs n ts i (some v) (fun _ => False) (F ++ [(v, a)]) S Ln := by
  have hm : ∀ u, u ∈ nms (F ++ [(v, a)]) ++ nms Ln ↔ u ∈ nms F ++ nms (Ln ++ [(v, a)]) := fun u => by
    simp only [nms_snoc, List.mem_append, List.mem_singleton, List.mem_cons, List.not_mem_nil, or_false]
    constructor
    · rintro ((z | z) | z)
      · exact .inl z
      · exact .inr (.inr z)
      · exact .inr (.inl z)
    · rintro (z | z | z)
      · exact .inl (.inl z)
      · exact .inr z
      · exact .inl (.inr z)
  have hp : (nms (F ++ [(v, a)]) ++ nms Ln).Perm (nms F ++ nms (Ln ++ [(v, a)])) := by
    rw [nms_snoc, nms_snoc, List.append_assoc]
    exact List.Perm.append_left _ List.perm_append_comm
  have nd := h.nd
  have hv : v ∉ nms F := fun z => by
    rw [nms_snoc] at nd
    exact (List.nodup_append.mp nd).2.2 v z v (by simp) rfl
  refine ⟨.snoc h.good hv (fun p e => ?_) (fun e => ?_), hp.nodup_iff.mpr nd, fun u hu => h.lt u ((hm u).mp hu), fun u => (h.sm u).trans (hm u).symm, ?_, fun u hu ne w hw => ?_, fun u _ w q => q.elim, ?_, fun r hr => (hm r).mpr (h.al r hr)⟩
  · subst e
    rcases h.en with ⟨r, e, _⟩ | e
    · have := (snoc_inj (F := Ln) (G := []) e).2
      cases this
    · obtain ⟨q, q1, q2, q3⟩ := e (v, some p) (by simp)
      cases q1
      exact ⟨q2, q3⟩
  · subst e
    rcases h.en with ⟨r, e, hc⟩ | e
    · refine ⟨fun u => u ∈ nms F, fun t ht => ⟨fun z => hc _ z _ (.inr ht), fun z => hc _ z _ (.inl ht)⟩, fun u hu => hu, hv⟩
    · obtain ⟨q, q1, _⟩ := e (v, none) (by simp)
      cases q1
  · rw [h.sl]; simp only [List.length_append, List.length_cons, List.length_nil]; omega
  · have hu' : u ∈ nms F := by
      rw [nms_snoc] at hu
      rcases List.mem_append.mp hu with hu | hu
      · exact hu
      · exact absurd (by rw [List.mem_singleton.mp hu]) ne
    exact (hm w).mpr (h.cl u hu' (by simp) w hw)
  · rcases h.en with ⟨r, e, hc⟩ | e
    · have := (snoc_inj (F := Ln) (G := []) e).1
      subst this
      exact .inr fun x hx => nomatch hx
    · refine .inr fun x hx => ?_
      obtain ⟨p, p1, p2, p3⟩ := e x (by simp [hx])
      exact ⟨p, p1, by simp [nms_snoc, p2], p3⟩
theorem dfs_pop_en {n : Nat} {ts : List Tie} {i : Nat} {F : Row} {S : List Nat} {Ln : Row} {v : Nat} {a : Option Nat} (h : Dfs n ts i none (fun _ => False) F S (Ln ++ [(v, a)])) : ∀ x ∈ Ln, ∃ p, x.2 = some p ∧ p ∈ nms (F ++ [(v, a)]) ∧ adj ts p x.1 := by
  rcases h.en with ⟨r, e, hc⟩ | e
  · have := (snoc_inj (F := Ln) (G := []) e).1
    subst this
    exact fun x hx => nomatch hx
  · intro x hx
    obtain ⟨p, p1, p2, p3⟩ := e x (by simp [hx])
    exact ⟨p, p1, by simp [nms_snoc, p2], p3⟩
theorem dfs_skip {n : Nat} {ts : List Tie} {i : Nat} {F : Row} {S : List Nat} {Ln : Row} {v u : Nat} {dn : Nat → Prop} (h : Dfs n ts i (some v) dn F S Ln) (hu : u ∈ S) : Dfs n ts i (some v) (fun w => dn w ∨ w = u) F S Ln :=
  ⟨h.good, h.nd, h.lt, h.sm, h.sl, h.cl, fun v e w q => q.elim (h.ca v e w) fun z => by rw [z]; exact (h.sm u).mp hu, h.en, h.al⟩
theorem dfs_push {n : Nat} {ts : List Tie} {i : Nat} {F : Row} {S : List Nat} {Ln : Row} {v u : Nat} {dn : Nat → Prop} (h : Dfs n ts i (some v) dn F S Ln) (he : ∀ x ∈ Ln, ∃ p, x.2 = some p ∧ p ∈ nms F ∧ adj ts p x.1) (hu : u ∉ S) (hn : u < n) (hv : v ∈ nms F) (ha : adj ts v u) : Dfs n ts i (some v) (fun w => dn w ∨ w = u) F (S ++ [u]) (Ln ++ [(u, some v)]) := by
  have hm : ∀ w, w ∈ nms F ++ nms (Ln ++ [(u, some v)]) ↔ w ∈ nms F ++ nms Ln ∨ w = u := fun w => by
    rw [nms_snoc, ← List.append_assoc]
    simp only [List.mem_append (t := [u]), List.mem_singleton]
  have hu' : u ∉ nms F ++ nms Ln := fun z => hu ((h.sm u).mpr z)
  refine ⟨h.good, ?_, fun w hw => ((hm w).mp hw).elim (h.lt w) fun z => z ▸ hn, fun w => ?_, ?_, fun w hw ne x hx => (hm x).mpr (.inl (h.cl w hw ne x hx)), fun w e x q => (hm x).mpr (q.imp (h.ca w e x) id), .inr fun x hx => ?_, fun r hr => (hm r).mpr (.inl (h.al r hr))⟩
  · rw [nms_snoc, ← List.append_assoc]
    exact List.nodup_append.mpr ⟨h.nd, by simp, fun a ha b hb q => hu' (by rw [← List.mem_singleton.mp hb, ← q]; exact ha)⟩
  · rw [hm w, List.mem_append, h.sm w, List.mem_singleton]
  · simp only [List.length_append, List.length_cons, List.length_nil, h.sl]; omega
  · rcases List.mem_append.mp hx with hx | hx
    · exact he x hx
    · rw [List.mem_singleton.mp hx]; exact ⟨v, rfl, hv, ha⟩
theorem dfs_done {n : Nat} {ts : List Tie} {i : Nat} {F : Row} {S : List Nat} {Ln : Row} {v : Nat} {dn : Nat → Prop} (h : Dfs n ts i (some v) dn F S Ln) (hd : ∀ u, adj ts u v → dn u) : Dfs n ts i none (fun _ => False) F S Ln :=
  ⟨h.good, h.nd, h.lt, h.sm, h.sl, fun w hw _ u hu => by
    by_cases q : w = v
    · subst q; exact h.ca w rfl u (hd u hu)
    · exact h.cl w hw (fun z => q (Option.some.inj z)) u hu, fun v q => (nomatch q), h.en, h.al⟩
/-- between two roots -/
structure Rts (n : Nat) (ts : List Tie) (i : Nat) (F : Row) (S : List Nat) : Prop where
  good : Good ts F
  nd : (nms F).Nodup
  lt : ∀ v ∈ nms F, v < n
  sm : ∀ v, v ∈ S ↔ v ∈ nms F
  sl : S.length = F.length
  cl : ∀ v ∈ nms F, ∀ u, adj ts u v → u ∈ nms F
  al : ∀ r, r < i → r ∈ nms F
theorem rts_start (n : Nat) (ts : List Tie) : Rts n ts 0 [] [] := ⟨.nil, List.nodup_nil, by simp [nms], by simp [nms], rfl, by simp [nms], by omega⟩
theorem rts_dfs {n : Nat} {ts : List Tie} {i : Nat} {F : Row} {S : List Nat} (h : Rts n ts i F S) (hi : i < n) (hs : i ∉ S) : Dfs n ts (i + 1) none (fun _ => False) F (S ++ [i]) [(i, none)] := by
  have hF : i ∉ nms F := fun z => hs ((h.sm i).mpr z)
  have e : nms [(i, (none : Option Nat))] = [i] := rfl
  refine ⟨h.good, ?_, fun v hv => ?_, fun v => ?_, ?_, fun v hv _ u hu => List.mem_append.mpr (.inl (h.cl v hv u hu)), fun v q => (nomatch q), .inl ⟨i, rfl, h.cl⟩, fun r hr => ?_⟩
  · rw [e]; exact List.nodup_append.mpr ⟨h.nd, by simp, fun a ha b hb q => hF (by rw [← List.mem_singleton.mp hb, ← q]; exact ha)⟩
  · rw [e] at hv
    rcases List.mem_append.mp hv with hv | hv
    · exact h.lt v hv
    · rw [List.mem_singleton.mp hv]; exact hi
  · rw [e, List.mem_append, List.mem_append, h.sm]
  · simp [h.sl]
  · rw [e, List.mem_append, List.mem_singleton]
    by_cases q : r = i
    · exact .inr q
    · exact .inl (h.al r (by omega))
theorem dfs_rts {n : Nat} {ts : List Tie} {i : Nat} {F : Row} {S : List Nat} (h : Dfs n ts i none (fun _ => False) F S []) : Rts n ts i F S := by
  have e : nms F ++ nms [] = nms F := by simp [nms]
  exact ⟨h.good, by rw [← e]; exact h.nd, fun v hv => h.lt v (by rw [e]; exact hv), fun v => by rw [← e]; exact h.sm v, by simpa using h.sl, fun v hv u hu => by rw [← e]; exact h.cl v hv (by simp) u hu, fun r hr => by rw [← e]; exact h.al r hr⟩
theorem rts_skip {n : Nat} {ts : List Tie} {i : Nat} {F : Row} {S : List Nat} (h : Rts n ts i F S) (hs : i ∈ S) : Rts n ts (i + 1) F S :=
  ⟨h.good, h.nd, h.lt, h.sm, h.sl, h.cl, fun r hr => by
    by_cases q : r = i
    · rw [q]; exact (h.sm i).mp hs
    · exact h.al r (by omega)⟩
def PreWays : List D → Prop := fun ds => ∃ (n : Nat) (ts : List Tie), n ≤ 1000 ∧ Within n ts ∧ ts.length ≤ 100000 ∧ ds = [wD n ts]
def Ways (n : Nat) (ts : List Tie) (F : Row) : Prop := Good ts F ∧ (∀ v ∈ nms F, v < n) ∧ F.length = n
def PostWays : List D → List D → Prop := fun ds es => ∀ (n : Nat) (ts : List Tie), ds = [wD n ts] → ∃ F, Ways n ts F ∧ es = F.map rwD
theorem rts_end {n : Nat} {ts : List Tie} {F : Row} {S : List Nat} (h : Rts n ts n F S) : Ways n ts F := by
  refine ⟨h.good, h.lt, ?_⟩
  have h1 := sub_len (B := List.range n) h.nd fun v hv => List.mem_range.mpr (h.lt v hv)
  have h2 := sub_len (A := List.range n) (B := nms F) List.nodup_range fun v hv => h.al v (List.mem_range.mp hv)
  simp only [nms, List.length_map, List.length_range] at h1 h2
  omega
abbrev nrD (nr : List (List Nat)) : List (List D) := nr.map fun l => l.map nD
theorem nrD_at {nr : List (List Nat)} {v : Nat} (h : v < nr.length) : (nrD nr)[v]? = some ((nr.getD v []).map nD) := by
  simp [List.getElem?_map, List.getElem?_eq_getElem h, List.getD_eq_getElem?_getD]
theorem nrD_set (nr : List (List Nat)) (v : Nat) (l : List Nat) : (nrD nr).set v (l.map nD) = nrD (nr.set v l) := by
  simp [nrD, List.map_set]
theorem w_names_by_ways {K : PySem.W.Frag} {H : Hp} {Q : VK} {n : Nat} {ts : List Tie} (hn : n ≤ 1000) (hw : Within n ts) (hl : ts.length ≤ 100000)
    (hr : ∀ F, Ways n ts F → ∀ env p xs σ H', R K H env σ H' → H p = none → H' p = some (.lst xs) → Dqs K H' xs (F.map rwD) → Q (.ref p) H') :
    WpS K H (rd_names_by_ways K) (env0 11 [wD n ts]) { nx := fun _ => False, rt := Q } := by
  unfold rd_names_by_ways
  refine ws_s (ws_asg (s := .o2 (nrD (List.replicate n []))) ?_ rfl) ?_
  · have e : nrD (List.replicate n []) = (List.range n).map fun _ => ([] : List D) := by
      apply List.ext_getElem <;> simp
    rw [e]
    refine es_lc2 (xs := List.range n) (enc := nD) (by rw [← rangeD_nat]; exact ei_rng1 (ev_ixT ev_v ev_int rfl) (by omega) (by omega)) (fun _ => []) (by simp; omega) fun a ha => ⟨_, bd_name, by simp, ef_lst ea_nil (by show 0 ≤ sizeLine; decide), rfl⟩
  refine ws_seq (M := fun e => ∃ nr, e = [.im (wD n ts), .o2 (nrD nr), .no, .no, .no, .no, .no, .no, .no, .no, .no] ∧ Near n ts ts.length nr) ?_ ?_
  · refine ws_for (ds := ts.map tD) (I := fun i e => ∃ nr, e = [.im (wD n ts), .o2 (nrD nr), .no, .no, .no, .no, .no, .no, .no, .no, .no] ∧ Near n ts i nr) (ez_tup (ez_lf (ev_ixT ev_v ev_int rfl) (lf_ties ts))) ⟨_, Fg.refl _, _, rfl, near_start n ts⟩ ?_ ?_
    · rintro i d e hd ⟨nr, rfl, hnr⟩
      obtain ⟨⟨a, b⟩, ht, rfl⟩ := map_at hd
      obtain ⟨hi, hti⟩ := List.getElem?_eq_some_iff.mp ht
      obtain ⟨ha, hb, hab⟩ := hw (a, b) (List.mem_of_getElem? ht)
      have hst := near_step hnr ht ha hb hab
      refine ⟨_, bd_tup (bds_cons bd_name (bds_cons bd_name bds_nil)), ?_⟩
      have la := hnr.le a
      refine ws_s (ws_append2 (n := 1) (m := a) rfl ev_v (nrD_at (by rw [hnr.len]; exact ha)) (ev_v (d := nD b)) lf_nD (by simp only [List.length_map]; omega) rfl) ?_
      have e1 : (nrD nr).set a ((nr.getD a []).map nD ++ [nD b]) = nrD (nr.set a (nr.getD a [] ++ [b])) := by
        rw [← nrD_set]; simp
      rw [e1]
      have lb : ((nr.set a (nr.getD a [] ++ [b])).getD b []).length ≤ 2 * i := by
        rw [getD_set, if_neg fun z => hab z.1.symm]; exact hnr.le b
      refine ws_append2 (n := 1) (m := b) rfl ev_v (nrD_at (by rw [List.length_set, hnr.len]; exact hb)) (ev_v (d := nD a)) lf_nD (by simp only [List.length_map]; omega) ?_
      refine ⟨_, .same (.same (.drop (.drop (.same (.same (.same (.same (.same (.same (.same .nil)))))))))), _, ?_, hst⟩
      rw [← nrD_set]; simp
    · rintro e ⟨nr, rfl, hnr⟩
      rw [List.length_map] at hnr
      exact ⟨nr, rfl, hnr⟩
  rintro e ⟨nr, rfl, hnr⟩
  refine ws_freeze2 (n := 1) rfl ?_
  have nrc : ∀ v, v < n → ∀ u, u ∈ nr.getD v [] ↔ adj ts u v := fun v hv u => by
    have := hnr.iff v hv u
    rwa [List.take_length] at this
  refine ws_s (ws_par (s1 := .ow (([] : Row).map rwD)) (s2 := .cu (dkC (([] : List Nat).map sk))) (es_f (ef_lst ea_nil (by show 0 ≤ sizeLine; decide)) rfl) es_dnew (by decide) rfl) ?_
  refine ws_seq (M := fun e => ∃ F S, e = [.im (wD n ts), .im (.list ((nrD nr).map .list)), .no, .no, .ow (F.map rwD), .cu (dkC (S.map sk)), .no, .no, .no, .no, .no] ∧ Rts n ts n F S) ?_ ?_
  · refine ws_for (ds := (List.range n).map nD) (I := fun i e => ∃ F S, e = [.im (wD n ts), .im (.list ((nrD nr).map .list)), .no, .no, .ow (F.map rwD), .cu (dkC (S.map sk)), .no, .no, .no, .no, .no] ∧ Rts n ts i F S) (by rw [← rangeD_nat]; exact ez_rng1 (ev_ixT ev_v ev_int rfl) (by omega) (by omega)) ⟨_, Fg.refl _, _, _, rfl, rts_start n ts⟩ ?_ ?_
    · rintro i d e hd ⟨F, S, rfl, hR⟩
      obtain ⟨r, hr', rfl⟩ := map_at hd
      have hin : i < n := by simpa using (List.getElem?_eq_some_iff.mp hr').1
      rw [List.getElem?_range hin] at hr'
      obtain rfl := Option.some.inj hr'
      refine ⟨_, bd_name, ?_⟩
      refine ws_if (b := !decide (i ∈ S)) ((eb_dnotin (n := 5) (key := .inl (i : Int)) rfl (ev_v (d := nD i))).cast (by rw [val_sk])) (fun q => ?_) (fun q => ?_)
      · have hs : i ∉ S := by simpa using q
        have hD := rts_dfs hR hin hs
        have hSl : S.length ≤ n := by have := hD.card; have := hR.sl; omega
        refine ws_s (ws_dput (n := 5) (key := .inl (i : Int)) (d := .bool true) rfl (ev_v (d := nD i)) ev_bl rfl (by simp only [List.length_map]; omega) rfl) ?_
        rw [put_sk hs]
        refine ws_s (ws_asg (s := .ow ([((i, none) : Nat × Option Nat)].map rwD)) (es_f (ef_lst (ea_cons (ev_tup (ds := [nD i, .none]) (ea_cons ev_v (ea_cons ev_non ea_nil))) ea_nil) (by show 1 ≤ sizeLine; decide)) (lfs_map lf_rwD)) rfl) ?_
        refine WpS.fg (env' := [.im (wD n ts), .im (.list ((nrD nr).map .list)), .no, .no, .ow (F.map rwD), .cu (dkC ((S ++ [i]).map sk)), .no, .ow ([((i, none) : Nat × Option Nat)].map rwD), .no, .no, .no]) ?_ (.same (.same (.same (.same (.same (.same (.drop (.same (.same (.same (.same .nil)))))))))))
        refine ws_while (I := fun e => ∃ F S Ln, e = [.im (wD n ts), .im (.list ((nrD nr).map .list)), .no, .no, .ow (F.map rwD), .cu (dkC (S.map sk)), .no, .ow (Ln.map rwD), .no, .no, .no] ∧ Dfs n ts (i + 1) none (fun _ => False) F S Ln)
          (μ := fun e => match e with | [_, _, _, _, .ow l, _, _, _, _, _, _] => n - l.length | _ => 0) ?_ ?_
        · exact ⟨F, S ++ [i], _, rfl, hD⟩
        · rintro e ⟨F, S, Ln, rfl, hD⟩
          refine ⟨!decide (Ln = []), eb_test ((ev_ne ev_v (ef_lst ea_nil).dd ((shp_lst (n := 1) (shp_map shp_rwD)).sh) ((shp_lst (n := 0) (ds := []) (by simp)).sh)).cast ?_), fun hb => ?_, fun hb => ?_⟩
          · rw [eqv_nil]; simp
          · have hc := hD.card
            obtain ⟨Ln', ⟨v, a⟩, rfl⟩ : ∃ L' x, Ln = L' ++ [x] := by
              rcases List.eq_nil_or_concat Ln with h | ⟨L', x, h⟩
              · rw [h] at hb; simp at hb
              · exact ⟨L', x, by simpa using h⟩
            have hP := dfs_pop hD
            have hvn : v < n := hP.lt v (by simp [nms_snoc])
            have hvF : v ∈ nms (F ++ [(v, a)]) := by simp [nms_snoc]
            rw [List.map_append]
            refine ws_s (ws_pop (n := 7) rfl (bd_tup (bds_cons bd_name (bds_cons bd_name bds_nil))) rfl) ?_
            simp only [List.length_append, List.length_cons, List.length_nil] at hc
            refine ws_s (ws_append (n := 4) (d := rwD (v, a)) rfl (ev_tup (ea_cons ev_v (ea_cons ev_v ea_nil))) (lf_rwD _) (by simp only [List.length_map]; omega) rfl) ?_
            refine ws_for (ds := (nr.getD v []).map nD) (I := fun j e => ∃ S Ln, e = [.im (wD n ts), .im (.list ((nrD nr).map .list)), .no, .no, .ow ((F ++ [(v, a)]).map rwD), .cu (dkC (S.map sk)), .no, .ow (Ln.map rwD), .im (nD v), .no, .no] ∧ Dfs n ts (i + 1) (some v) (fun u => u ∈ (nr.getD v []).take j) (F ++ [(v, a)]) S Ln ∧ ∀ x ∈ Ln, ∃ p, x.2 = some p ∧ p ∈ nms (F ++ [(v, a)]) ∧ adj ts p x.1) (ez_list (ez_ixL (ez_im rfl) ev_v (by rw [List.getElem?_map, nrD_at (by rw [hnr.len]; exact hvn)]; rfl))) ?_ ?_ ?_
            · refine ⟨_, .same (.same (.same (.same (.same (.same (.same (.same (.same (.drop (.same .nil)))))))))), S, Ln', by rw [List.map_append]; rfl, by simpa using hP, dfs_pop_en hD⟩
            · rintro j d e hd ⟨S, Ln, rfl, hj, hen⟩
              obtain ⟨u, hu, rfl⟩ := map_at hd
              obtain ⟨hjl, hju⟩ := List.getElem?_eq_some_iff.mp hu
              have tk : ∀ w, (w ∈ (nr.getD v []).take j ∨ w = u) ↔ w ∈ (nr.getD v []).take (j + 1) := fun w => by
                rw [List.take_add_one, hu]; simp
              have hua : adj ts u v := (nrc v hvn u).mp (List.mem_of_getElem? hu)
              have hun : u < n := by
                rcases hua with z | z
                · exact (hw _ z).1
                · exact (hw _ z).2.1
              have hcj := hj.card
              have hsl := hj.sl
              refine ⟨_, bd_name, ?_⟩
              refine ws_if (b := !decide (u ∈ S)) ((eb_dnotin (n := 5) (key := .inl (u : Int)) rfl (ev_v (d := nD u))).cast (by rw [val_sk])) (fun q => ?_) (fun q => ?_)
              · have hs : u ∉ S := by simpa using q
                have hp := dfs_push hj hen hs hun hvF (adj_comm.mp hua)
                refine ws_s (ws_dput (n := 5) (key := .inl (u : Int)) (d := .bool true) rfl (ev_v (d := nD u)) ev_bl rfl (by simp only [List.length_map]; omega) rfl) ?_
                rw [put_sk hs]
                refine ws_append (n := 7) (d := rwD (u, some v)) rfl (ev_tup (ea_cons ev_v (ea_cons ev_v ea_nil))) (lf_rwD _) (by simp only [List.length_map]; omega) ?_
                refine ⟨_, .same (.same (.same (.same (.same (.same (.same (.same (.same (.same (.drop .nil)))))))))), S ++ [u], Ln ++ [(u, some v)], by rw [List.map_append (f := rwD) (l₁ := Ln)]; rfl, ?_, ?_⟩
                · simp only [tk] at hp; exact hp
                · intro x hx
                  rcases List.mem_append.mp hx with hx | hx
                  · exact hen x hx
                  · rw [List.mem_singleton.mp hx]; exact ⟨v, rfl, hvF, adj_comm.mp hua⟩
              · have hs : u ∈ S := by simpa using q
                have hp := dfs_skip hj hs
                simp only [tk] at hp
                exact ws_next ⟨_, .same (.same (.same (.same (.same (.same (.same (.same (.same (.same (.drop .nil)))))))))), S, Ln, rfl, hp, hen⟩
            · rintro e ⟨S, Ln, rfl, hj, _⟩
              rw [List.length_map, List.take_length] at hj
              have hd := dfs_done hj fun u hu => (nrc v hvn u).mpr hu
              refine ⟨_, .same (.same (.same (.same (.same (.same (.same (.same (.drop (.same (.same .nil)))))))))), ⟨F ++ [(v, a)], S, Ln, rfl, hd⟩, ?_⟩
              simp only [List.length_map, List.length_append, List.length_cons, List.length_nil]
              omega
          · have : Ln = [] := by simpa using hb
            subst this
            exact ⟨_, .same (.same (.same (.same (.same (.same (.same (.drop (.same (.same (.same .nil)))))))))), F, S, rfl, dfs_rts hD⟩
      · refine ws_next ⟨_, .same (.same (.same (.same (.same (.same (.drop (.same (.same (.same (.same .nil)))))))))), F, S, rfl, rts_skip hR (by simpa using q)⟩
    · rintro e ⟨F, S, rfl, hR⟩
      rw [List.length_map, List.length_range] at hR
      exact ⟨F, S, rfl, hR⟩
  · rintro e ⟨F, S, rfl, hR⟩
    exact ws_retO (n := 4) rfl fun p xs σ H' r n hp hd => hr F (rts_end hR) _ p xs σ H' r n hp hd
end K72
/-! K72W4: forest_counts, pairing_counts, most_pairs, pairing_polynomial, webs_beside. -/
namespace K72
open PySem PySem.Spec L2 VL

abbrev fD (ls : List (List Int)) : List (List D) := ls.map iD
theorem fD_at {ls : List (List Int)} {v : Nat} (h : v < ls.length) : ((fD ls).map PyData.list)[v]? = some (.list (iD (ls.getD v []))) := by
  simp [List.getElem?_map, List.getElem?_eq_getElem h, List.getD_eq_getElem?_getD]
theorem fD_set (ls : List (List Int)) (v : Nat) (l : List Int) : (fD ls).set v (iD l) = fD (ls.set v l) := by
  simp [fD, List.map_set]
theorem all_in {n : Nat} {A : List Nat} (nd : A.Nodup) (h : ∀ a ∈ A, a < n) (hl : A.length = n) {v : Nat} (hv : v < n) : v ∈ A := by
  refine Decidable.byContradiction fun q => ?_
  have := sub_len (A := v :: A) (B := List.range n) (List.nodup_cons.mpr ⟨q, nd⟩) fun a ha => (List.mem_cons.mp ha).elim (fun e => List.mem_range.mpr (e ▸ hv)) fun ha => List.mem_range.mpr (h a ha)
  simp only [List.length_cons, List.length_range] at this
  omega
theorem last_not0 : ∀ l : List Int, (∀ k, l.getD k 0 = 0) ∨ ∃ m, m < l.length ∧ l.getD m 0 ≠ 0 ∧ ∀ k, m < k → l.getD k 0 = 0
  | [] => .inl fun k => by simp
  | c :: cs => by
    rcases last_not0 cs with h | ⟨m, h1, h2, h3⟩
    · by_cases q : c = 0
      · refine .inl fun k => ?_
        cases k with
        | zero => simpa using q
        | succ k => simpa using h k
      · refine .inr ⟨0, by simp, by simpa using q, fun k hk => ?_⟩
        cases k with
        | zero => omega
        | succ k => simpa using h k
    · refine .inr ⟨m + 1, by simpa using h1, by simpa using h2, fun k hk => ?_⟩
      cases k with
      | zero => omega
      | succ k => simpa using h3 k (by omega)
theorem ev_all0 (x : Int) : ∀ l : List Int, (∀ k, l.getD k 0 = 0) → ev x l = 0
  | [], _ => rfl
  | c :: cs, h => by
    have h0 : c = 0 := by simpa using h 0
    simp only [ev]
    rw [ev_all0 x cs fun k => by simpa using h (k + 1), h0]
    simp
def SgForest : List D → List D → Prop := fun ds es => ∃ (n : Nat) (ts : List Tie), n ≤ 16 ∧ Within n ts ∧ ts.length ≤ 63 ∧ hasRing ts (List.range n) = false ∧ ds = [wD n ts] ∧ es = iD (mcount ts)
theorem cutD_to {ds : List D} {k : Nat} (h : k ≤ ds.length) : cutD ds none (some (k : Int)) = ds.take k := by
  unfold cutD
  rw [HT.sIx_none, HT.sIx_nat]
  simp [Nat.min_eq_left h]
theorem w_forest_counts {K : PySem.W.Frag} {H : Hp} {Q : VK} {n : Nat} {ts : List Tie} (hn : n ≤ 16) (hw : Within n ts) (hl : ts.length ≤ 63) (hg : hasRing ts (List.range n) = false)
    (hr : ∀ env p xs σ H', R K H env σ H' → H p = none → H' p = some (.lst xs) → Dqs K H' xs (iD (mcount ts)) → Q (.ref p) H') :
    WpS K H (rd_forest_counts K (spFP K PreWays PostWays) (spF K SgSum) (spF K SgTimes)) (env0 11 [wD n ts]) { nx := fun _ => False, rt := Q } := by
  unfold rd_forest_counts
  have two : ∀ c : Int, EvS K (tLc (iRng1 (tCons (tOp (rIx K) (tVar 0) (tC (.int 0))) tNil)) (gName 4) tYes (tLst (tCons (tC (.int c)) tNil)) [4]) [.im (wD n ts), .no, .no, .no, .no, .no, .no, .no, .no, .no, .no] (.o2 (fD (List.replicate n [c]))) := fun c => by
    have e : fD (List.replicate n [c]) = (List.range n).map fun _ => iD [c] := by
      apply List.ext_getElem <;> simp
    rw [e]
    exact es_lc2 (xs := List.range n) (enc := nD) (by rw [← rangeD_nat]; exact ei_rng1 (ev_ixT ev_v ev_int rfl) (by omega) (by omega)) (fun _ => iD [c]) (by simp; omega) fun a ha => ⟨_, bd_name, by simp, ef_lst (ea_cons ev_int ea_nil) (by show 1 ≤ sizeLine; decide), by simp [lf, lfs]⟩
  have two' : ∀ c : Int, EvS K (tLc (iRng1 (tCons (tOp (rIx K) (tVar 0) (tC (.int 0))) tNil)) (gName 4) tYes (tLst (tCons (tC (.int c)) tNil)) [4]) [.im (wD n ts), .o2 (fD (List.replicate n [1])), .no, .no, .no, .no, .no, .no, .no, .no, .no] (.o2 (fD (List.replicate n [c]))) := fun c => by
    have e : fD (List.replicate n [c]) = (List.range n).map fun _ => iD [c] := by
      apply List.ext_getElem <;> simp
    rw [e]
    exact es_lc2 (xs := List.range n) (enc := nD) (by rw [← rangeD_nat]; exact ei_rng1 (ev_ixT ev_v ev_int rfl) (by omega) (by omega)) (fun _ => iD [c]) (by simp; omega) fun a ha => ⟨_, bd_name, by simp, ef_lst (ea_cons ev_int ea_nil) (by show 1 ≤ sizeLine; decide), by simp [lf, lfs]⟩
  refine ws_s (ws_asg (two 1) rfl) ?_
  refine ws_s (ws_asg (two' 0) rfl) ?_
  refine ws_s (ws_asg (s := .ow (iD [1])) (es_f (ef_lst (ea_cons ev_int ea_nil) (by show 1 ≤ sizeLine; decide)) (by simp [lf, lfs])) rfl) ?_
  refine ws_seq (M := fun e => ∃ (found : List Int) (free used : List (List Int)), e = [.im (wD n ts), .o2 (fD free), .o2 (fD used), .ow (iD found), .no, .no, .no, .no, .no, .no, .no] ∧ (∀ x, ev x found = M x ts) ∧ found.length ≤ 65536) ?_ ?_
  · refine ws_forP (P := fun ds => PostWays [wD n ts] ds.reverse) (ez_listP (ef_revP (ef_callP (ea_cons ev_v ea_nil) ⟨n, ts, by omega, hw, by omega, rfl⟩)) fun ds hP => ?_) fun ds hP => ?_
    · obtain ⟨F, _, e⟩ := hP n ts rfl
      have : ds = F.reverse.map rwD := by rw [List.map_reverse, ← e, List.reverse_reverse]
      rw [this]
      exact lfs_map lf_rwD
    · obtain ⟨F, ⟨hF1, hF2, hF3⟩, e⟩ := hP n ts rfl
      have eds : ds = F.reverse.map rwD := by rw [List.map_reverse, ← e, List.reverse_reverse]
      have hT := tree_of hw hg hF1 hF2 hF3
      have hlen : ds.length = n := by rw [eds]; simp [hF3]
      have hin : inside ts (nms F) = ts := List.filter_eq_self.mpr fun t ht => by
        obtain ⟨a, b, _⟩ := hw t ht
        have nd := tree_nodup hT
        have hl : (nms F).length = n := by simp [nms, hF3]
        simp [all_in nd hF2 hl a, all_in nd hF2 hl b]
      refine ⟨fun i e => ∃ (F1 : Row) (free used : List (List Int)) (found : List Int), e = [.im (wD n ts), .o2 (fD free), .o2 (fD used), .ow (iD found), .no, .no, .no, .no, .no, .no, .no] ∧ F1.reverse = F.reverse.drop i ∧ Dp n ts i F1 free used found, ⟨_, Fg.refl _, F, _, _, _, rfl, rfl, dp_start hw hT hF2 hin⟩, ?_, ?_⟩
      · rintro i d e hd ⟨F1, free, used, found, rfl, hF, hD⟩
        rw [eds] at hd
        obtain ⟨⟨v, a⟩, hx, rfl⟩ := map_at hd
        obtain ⟨hi, hxi⟩ := List.getElem?_eq_some_iff.mp hx
        have hin' : i < n := by simpa [hF3] using hi
        obtain ⟨G, rfl⟩ : ∃ G, F1 = G ++ [(v, a)] := by
          rw [List.drop_eq_getElem_cons hi, hxi] at hF
          refine ⟨(F.reverse.drop (i + 1)).reverse, ?_⟩
          have := congrArg List.reverse hF
          simpa using this
        have hG : G.reverse = F.reverse.drop (i + 1) := by
          rw [List.drop_eq_getElem_cons hi, hxi, List.reverse_append] at hF
          simpa using hF
        have p2 : 2 ^ i ≤ 32768 := by
          have : 2 ^ i ≤ 2 ^ 15 := Nat.pow_le_pow_right (by decide) (by omega)
          omega
        have hv : v ∈ nms (G ++ [(v, a)]) := by simp [nms_snoc]
        have hvn := hD.lt v hv
        have fv := hD.fnn hvn
        have uv := hD.unn hvn
        have bf := hD.bfree hw hl hv
        obtain ⟨wn, wb, w0, wl⟩ := hD.whole hw hl hv
        have b0 : bd64 (0 :: used.getD v []) := fun c hc => (List.mem_cons.mp hc).elim (fun h => by rw [h]; decide) (bf.2 c)
        refine ⟨_, bd_tup (bds_cons bd_name (bds_cons bd_name bds_nil)), ?_⟩
        refine ws_s (ws_asg (s := .ow (iD (whole free used v))) (es_f (ef_call (ea_cons (ev_ixLn (n := v) ev_v ev_v (fD_at (by rw [hD.lf]; exact hvn))) (ea_cons ((ef_cat (ef_lst (ds := [.int 0]) (ea_cons ev_int ea_nil) (by show 1 ≤ sizeLine; decide)).dd (ev_ixLn (n := v) ev_v ev_v (fD_at (by rw [hD.lu]; exact hvn))) ?_).dd.cast ?_) (ea_cons ev_int ea_nil))) ⟨free.getD v [], 0 :: used.getD v [], 1, b0, by decide, by omega, by simp only [List.length_cons]; omega, rfl, rfl⟩) (lfs_ints _)) rfl) ?_
        · show 1 + _ ≤ 2 ^ 24
          simp only [List.length_map]; omega
        · rfl
        cases a with
        | none =>
          refine ws_if (b := true) (eb_test (ev_isN (d := oD none) ev_v)) (fun _ => ?_) (fun q => by cases q)
          have hR := dp_root hD hw
          have fo := hD.no
          refine ws_asg (s := .ow (iD (pMul found (whole free used v)))) (es_f (ef_call (ea_cons ev_v (ea_cons ev_v ea_nil)) ⟨found, whole free used v, hD.bf hw hl, wb, by omega, by omega, by omega, rfl, rfl⟩) (lfs_ints _)) ?_
          exact ⟨_, .same (.same (.same (.same (.drop (.drop (.drop (.same (.same (.same (.same .nil)))))))))), G, _, _, _, rfl, hG, hR⟩
        | some p =>
          refine ws_if (b := false) (eb_test (ev_isN (d := oD (some p)) ev_v)) (fun q => by cases q) (fun _ => ?_)
          obtain ⟨hL, bt⟩ := dp_leaf hD hw hl
          obtain ⟨t1, t2, t3, _⟩ := tree_leaf hD.tree
          have hp : p ∈ nms (G ++ [(v, some p)]) := by simp [nms_snoc, t3]
          have hpn := hD.lt p hp
          have fp := hD.fnn hpn
          have up := hD.unn hpn
          have bp := hD.bfree hw hl hp
          refine ws_s (ws_asg (s := .ow (iD (pMul (free.getD p []) (free.getD v [])))) (es_f (ef_call (ea_cons (ev_ixLn (n := p) ev_v (ev_v (d := nD p)) (fD_at (by rw [hD.lf]; exact hpn))) (ea_cons (ev_ixLn (n := v) ev_v ev_v (fD_at (by rw [hD.lf]; exact hvn))) ea_nil)) ⟨free.getD p [], free.getD v [], bp.1, bf.1, by omega, by omega, by omega, rfl, rfl⟩) (lfs_ints _)) rfl) ?_
          refine ws_s (ws_setitem2 (n := 2) (m := p) (es := iD (pAdd (pMul (used.getD p []) (whole free used v)) (pMul (free.getD p []) (free.getD v [])) 1)) rfl (ef_call (ea_cons (ef_call (ea_cons (ev_ixLn (n := p) ev_v (ev_v (d := nD p)) (fD_at (by rw [hD.lu]; exact hpn))) (ea_cons ev_v ea_nil)) ⟨used.getD p [], whole free used v, bp.2, wb, by omega, by omega, by omega, rfl, rfl⟩).dd (ea_cons ev_v (ea_cons ev_int ea_nil))) ⟨pMul (used.getD p []) (whole free used v), pMul (free.getD p []) (free.getD v []), 1, bt, by decide, ?_, ?_, rfl, rfl⟩) (lfs_ints _) (ev_v (d := nD p)) (by rw [List.length_map, hD.lu]; exact hpn) rfl) ?_
          · rw [pMul_len]; omega
          · rw [pMul_len]; omega
          rw [fD_set]
          refine ws_setitem2 (n := 1) (m := p) (es := iD (pMul (free.getD p []) (whole free used v))) rfl (ef_call (ea_cons (ev_ixLn (n := p) ev_v (ev_v (d := nD p)) (fD_at (by rw [hD.lf]; exact hpn))) (ea_cons ev_v ea_nil)) ⟨free.getD p [], whole free used v, bp.1, wb, by omega, by omega, by omega, rfl, rfl⟩) (lfs_ints _) (ev_v (d := nD p)) (by rw [List.length_map, hD.lf]; exact hpn) ?_
          rw [fD_set]
          exact ⟨_, .same (.same (.same (.same (.drop (.drop (.drop (.drop (.same (.same (.same .nil)))))))))), G, _, _, _, rfl, hG, hL⟩
      · rintro e ⟨F1, free, used, found, rfl, hF, hD⟩
        have e0 : F1 = [] := by
          rw [hlen, ← hF3, ← List.length_reverse, List.drop_length] at hF
          simpa using hF
        subst e0
        obtain ⟨h1, h2⟩ := dp_end hD
        have p2 : 2 ^ ds.length ≤ 65536 := by
          have : 2 ^ ds.length ≤ 2 ^ 16 := Nat.pow_le_pow_right (by decide) (by omega)
          omega
        exact ⟨found, free, used, rfl, h1, by omega⟩
  · rintro e ⟨found, free, used, rfl, h1, h2⟩
    obtain ⟨m, m1, m2, m3⟩ : ∃ m, m < found.length ∧ found.getD m 0 ≠ 0 ∧ ∀ k, m < k → found.getD k 0 = 0 := by
      rcases last_not0 found with h | h
      · have := h1 1
        rw [ev_all0 1 found h] at this
        have := (M1_le ts).1
        omega
      · exact h
    have hmf : (found[m], m) ∈ found.zipIdx := by
      rw [List.mem_iff_getElem?]
      exact ⟨m, by simp [List.getElem?_zipIdx, List.getElem?_eq_getElem m1]⟩
    have gm : found.getD m 0 = found[m] := by simp [List.getD_eq_getElem?_getD, List.getElem?_eq_getElem m1]
    refine ws_s (ws_asg (s := .im (.int ((m + 1 : Nat) : Int))) (es_lf (ev_maxL (ns := ((found.zipIdx).filter fun p => p.1 != 0).map fun p => ((p.2 : Nat) : Int) + 1) (m := ((m + 1 : Nat) : Int)) ((ef_lc (xs := found.zipIdx) (enc := fun p => .tuple [nD p.2, .int p.1]) (by rw [← enumD_map]; exact ei_enumL ev_v) (fun p => p.1 != 0) (fun p => .int (((p.2 : Nat) : Int) + 1)) (by simp; omega) fun p hp => ⟨_, bd_tup (bds_cons bd_name (bds_cons bd_name bds_nil)), by simp, eb_test ((ev_ne ev_v ev_int (shp_int (n := 0)).sh (shp_int (n := 0)).sh).cast ?_), fun _ => ⟨ev_add ev_v ev_int, lf_int⟩⟩).dd.cast ?_) ?_ ?_) lf_int) rfl) ?_
    · rw [eqv_intD]
      by_cases q : p.1 = 0 <;> simp [q]
    · rw [List.map_map]; rfl
    · refine List.mem_map.mpr ⟨(found[m], m), List.mem_filter.mpr ⟨hmf, ?_⟩, by simp⟩
      rw [gm] at m2
      simpa using m2
    · intro y hy
      obtain ⟨⟨c, k⟩, hp, rfl⟩ := List.mem_map.mp hy
      obtain ⟨hz, hc⟩ := List.mem_filter.mp hp
      have hk : found.getD k 0 = c := by
        have := List.mem_zipIdx_iff_getElem?.mp hz
        simp only at this
        rw [List.getD_eq_getElem?_getD, this]
        rfl
      have : k ≤ m := Decidable.byContradiction fun q => by
        rw [m3 k (by omega)] at hk
        rw [← hk] at hc
        simp at hc
      simp only
      omega
    · refine ws_retF (ds := iD (mcount ts)) ((ef_slL ev_v eo_none (eo_some ev_v)).cast ?_) fun p xs σ H' r n hp hd => hr _ p xs σ H' r n hp hd
      rw [cutD_to (by simp only [iD, List.length_map]; omega), ← List.map_take, cut_counts h1 m1 m2 m3]
end K72
/-! K72W5: pairing_counts, most_pairs, pairing_polynomial, webs_beside, _law_full. -/
namespace K72
open PySem PySem.Spec L2 VL

def SgPair : List D → D → Prop := fun ds d => ∃ (n : Nat) (ts : List Tie), n ≤ 16 ∧ Within n ts ∧ ts.length ≤ 63 ∧ ds = [wD n ts] ∧ d = .tuple (iD (mcount ts))
theorem w_pairing_counts {K : PySem.W.Frag} {H : Hp} {Q : VK} {n : Nat} {ts : List Tie} (hn : n ≤ 16) (hw : Within n ts) (hl : ts.length ≤ 63)
    (hr : ∀ env v σ H', R K H env σ H' → Dq K H' v (.tuple (iD (mcount ts))) → Q v H') :
    WpS K H (rd_pairing_counts K (spD K SgRing) (spF K SgForest) (spF K SgWithin)) (env0 1 [wD n ts]) { nx := fun _ => False, rt := Q } := by
  unfold rd_pairing_counts
  refine ws_seq (M := fun e => e = [.im (wD n ts)]) ?_ ?_
  · refine ws_if (b := !hasRing ts (List.range n)) (eb_not (eb_val (ev_call (ea_cons ev_v ea_nil) ⟨n, ts, by omega, hw, rfl, rfl⟩))) (fun q => ?_) (fun q => ws_next rfl)
    exact ws_ret (ev_tupleL (ef_call (ea_cons ev_v ea_nil) ⟨n, ts, hn, hw, hl, by simpa using q, rfl, rfl⟩).dd) fun v σ H' r hd => hr _ v σ H' r hd
  · rintro e rfl
    exact ws_ret (ev_tupleL (ef_call (ea_cons ((ef_listRg (er_1 (i := (n : Int)) (ev_ixT ev_v ev_int rfl)) (RgOk.of_le (by omega) (by omega) (by omega) (by omega))).cast rangeD_nat).dd (ea_cons (ev_ixT ev_v ev_int rfl) ea_nil)) ⟨n, ts, by omega, hw, hl, rfl, rfl⟩).dd) fun v σ H' r hd => hr _ v σ H' r hd
def SgMost : List D → D → Prop := fun ds d => ∃ (n : Nat) (ts : List Tie), n ≤ 16 ∧ Within n ts ∧ ts.length ≤ 63 ∧ ds = [wD n ts] ∧ d = .int ((mcount ts).length - 1 : Int)
theorem w_most_pairs {K : PySem.W.Frag} {H : Hp} {Q : VK} {n : Nat} {ts : List Tie} (hn : n ≤ 16) (hw : Within n ts) (hl : ts.length ≤ 63)
    (hr : ∀ env v σ H', R K H env σ H' → Dq K H' v (.int ((mcount ts).length - 1 : Int)) → Q v H') :
    WpS K H (rd_most_pairs K (spD K SgPair)) (env0 1 [wD n ts]) { nx := fun _ => False, rt := Q } := by
  unfold rd_most_pairs
  exact ws_ret ((ev_sub (ev_lenT (ev_call (ea_cons ev_v ea_nil) ⟨n, ts, hn, hw, hl, rfl, rfl⟩)) ev_int).cast (by simp [iD])) fun v σ H' r hd => hr _ v σ H' r hd
/-- counts set at each second place from the end, every second one turned -/
def rowN (n : Nat) (l : List Int) : Nat → List Int
  | 0 => List.replicate (n + 1) 0
  | i + 1 => (rowN n l i).set (n - 2 * i) (l.getD i 0 * (1 - 2 * ((i % 2 : Nat) : Int)))
theorem rowN_len (n : Nat) (l : List Int) : ∀ i, (rowN n l i).length = n + 1
  | 0 => by simp [rowN]
  | i + 1 => by simp [rowN, rowN_len n l i]
def SgPoly : List D → D → Prop := fun ds d => ∃ (n : Nat) (ts : List Tie), n ≤ 16 ∧ Within n ts ∧ ts.length ≤ 63 ∧ ds = [wD n ts] ∧ d = .tuple (iD (rowN n (mcount ts) (mcount ts).length))
theorem mcount_half {n : Nat} {ts : List Tie} (hw : Within n ts) {i : Nat} (h : i < (mcount ts).length) : 2 * i ≤ n := by
  have := mcount_len ts (List.range n) List.nodup_range (within_among hw)
  rw [List.length_range] at this
  omega
theorem w_pairing_polynomial {K : PySem.W.Frag} {H : Hp} {Q : VK} {n : Nat} {ts : List Tie} (hn : n ≤ 16) (hw : Within n ts) (hl : ts.length ≤ 63)
    (hr : ∀ env v σ H', R K H env σ H' → Dq K H' v (.tuple (iD (rowN n (mcount ts) (mcount ts).length))) → Q v H') :
    WpS K H (rd_pairing_polynomial K (spD K SgPair)) (env0 4 [wD n ts]) { nx := fun _ => False, rt := Q } := by
  unfold rd_pairing_polynomial
  refine ws_s (ws_asg (s := .ow (iD (rowN n (mcount ts) 0))) (es_f ((ef_rep1 (d := .int 0) (ef_lst (ea_cons ev_int ea_nil)).dd ((ev_add (ev_ixT (d := nD n) ev_v ev_int rfl) ev_int).cast (e := .int ((n + 1 : Nat) : Int)) (by simp)) (by omega) (by omega)).cast ?_) (lfs_ints _)) rfl) ?_
  · simp only [rowN, iD, List.map_replicate]
    congr 1
  refine ws_s (ws_forE (ev := fun i => [.im (wD n ts), .ow (iD (rowN n (mcount ts) i)), .no, .no]) (ez_enumT (ez_lf (ev_call (ea_cons ev_v ea_nil) ⟨n, ts, hn, hw, hl, rfl, rfl⟩) (lf_tuple (lfs_ints _)))) (Fg.refl _) (fun i d hd => ?_) rfl) ?_
  · obtain ⟨e, he, rfl⟩ := enum_at hd
    obtain ⟨c, hc, rfl⟩ := map_at he
    obtain ⟨hi, hci⟩ := List.getElem?_eq_some_iff.mp hc
    have h2 := mcount_half hw hi
    have hb := mcount_bd ts hl c (List.mem_of_getElem? hc)
    refine ⟨_, bd_tup (bds_cons bd_name (bds_cons bd_name bds_nil)), ?_⟩
    refine ws_setitem (n := 1) (m := n - 2 * i) rfl (ev_mul ev_v (ev_sub ev_int (ev_mul ev_int (ev_mod ev_v ev_int (by decide)) ?_)) ?_) lf_int ((ev_sub (ev_ixT (d := nD n) ev_v ev_int rfl) (ev_mul ev_int ev_v ?_)).cast (by congr 1; omega)) (by simp only [iD, List.length_map, rowN_len]; omega) ?_
    · refine wide_mul (a := 64) (b := 64) (by decide) ?_ (by decide) (by decide) (by decide)
      omega
    · refine wide_mul (a := 64) (b := 64) hb.2 ?_ (by decide) (by decide) (by decide)
      omega
    · refine wide_mul (a := 64) (b := 64) (by decide) ?_ (by decide) (by decide) (by decide)
      omega
    · refine .same ?_
      have e : (iD (rowN n (mcount ts) i)).set (n - 2 * i) (.int (c * (1 - 2 * ((i : Int) % 2)))) = iD (rowN n (mcount ts) (i + 1)) := by
        have g : (mcount ts).getD i 0 = c := by rw [List.getD_eq_getElem?_getD, hc]; rfl
        have m : ((i % 2 : Nat) : Int) = (i : Int) % 2 := by omega
        simp only [rowN, g, m, iD, List.map_set]
      rw [e]
      exact .same (.drop (.drop .nil))
  · refine ws_ret (ev_tupleL ev_v) fun v σ H' r hd => hr _ v σ H' r ?_
    rw [enumD_len] at hd
    simpa [iD] using hd
def shiftT (n : Nat) (t : Tie) : Tie := (t.1 + n, t.2 + n)
def SgBeside : List D → D → Prop := fun ds d => ∃ (n m : Nat) (ts us : List Tie), ts.length ≤ 1000 ∧ us.length ≤ 1000 ∧ ds = [wD n ts, wD m us] ∧ d = wD (n + m) (srt (ts ++ us.map (shiftT n)))
theorem w_webs_beside {K : PySem.W.Frag} {H : Hp} {Q : VK} {n m : Nat} {ts us : List Tie} (h1 : ts.length ≤ 1000) (h2 : us.length ≤ 1000)
    (hr : ∀ env v σ H', R K H env σ H' → Dq K H' v (wD (n + m) (srt (ts ++ us.map (shiftT n)))) → Q v H') :
    WpS K H (rd_webs_beside K) (env0 5 [wD n ts, wD m us]) { nx := fun _ => False, rt := Q } := by
  unfold rd_webs_beside
  refine ws_s (ws_asg (s := .im (nD n)) (es_lf (ev_ixT (d := nD n) ev_v ev_int rfl) lf_nD) rfl) ?_
  refine ws_ret (ev_tup (ds := [nD (n + m), .tuple ((srt (ts ++ us.map (shiftT n))).map tD)]) (ea_cons ((ev_add ev_v (ev_ixT (d := nD m) ev_v ev_int rfl)).cast (by simp [nD])) (ea_cons (ev_tupleL (ef_sorted ((ef_cat (ef_listT (ev_ixT (d := .tuple (ts.map tD)) ev_v ev_int rfl)).dd (ef_lcM (xs := us) (enc := tD) (ei_tup (ev_ixT (d := .tuple (us.map tD)) ev_v ev_int rfl)) (fun t => tD (shiftT n t)) (by omega) fun t ht => ⟨_, bd_tup (bds_cons bd_name (bds_cons bd_name bds_nil)), by simp, (ev_tup (ds := [nD (t.1 + n), nD (t.2 + n)]) (ea_cons ((ev_add ev_v ev_v).cast (by simp [nD])) (ea_cons ((ev_add ev_v ev_v).cast (by simp [nD])) ea_nil))), lf_tD⟩).dd ?_).dd.cast ?_)).dd) ea_nil))) fun v σ H' r hd => hr _ v σ H' r hd
  · show _ ≤ 2 ^ 24
    simp; omega
  · simp [List.map_map, Function.comp_def]

/-! ### _law_full -/
def fulA (n : Nat) : Nat → Int
  | 0 => 1
  | i + 1 => fulA n i * ((n : Int) - 2 * i) * ((n : Int) - 2 * i - 1) / 2
def fulB (f : Int) : Nat → Int
  | 0 => f
  | i + 1 => fulB f i / ((i : Int) + 1)
def ful (n j : Nat) : Int := fulB (fulA n j) j
def SgFull : List D → D → Prop := fun ds d => ∃ n j : Nat, n ≤ 10 ∧ j ≤ 5 ∧ ds = [nD n, nD j] ∧ d = .int (ful n j)
theorem fulA_bd : ∀ n, n < 11 → ∀ i, i < 6 → (fulA n i).natAbs < 2 ^ 64 := by decide +kernel
theorem w_law_full {K : PySem.W.Frag} {H : Hp} {Q : VK} {n j : Nat} (hn : n ≤ 10) (hj : j ≤ 5)
    (hr : ∀ env v σ H', R K H env σ H' → Dq K H' v (.int (ful n j)) → Q v H') :
    WpS K H (rd_law_full K) (env0 4 [nD n, nD j]) { nx := fun _ => False, rt := Q } := by
  unfold rd_law_full
  refine ws_s (ws_asg (s := .im (.int 1)) (es_lf ev_int lf_int) rfl) ?_
  refine ws_s (ws_forE (ds := (List.range j).map nD) (ev := fun i => [.im (nD n), .im (nD j), .im (.int (fulA n i)), .no]) (by rw [← rangeD_nat]; exact ez_rng1 ev_v (by omega) (by omega)) (Fg.refl _) (fun i d hd => ?_) rfl) ?_
  · obtain ⟨r, hr', rfl⟩ := map_at hd
    have hin : i < j := by simpa using (List.getElem?_eq_some_iff.mp hr').1
    rw [List.getElem?_range hin] at hr'
    obtain rfl := Option.some.inj hr'
    have hb := fulA_bd n (by omega) i (by omega)
    refine ⟨_, bd_name, ?_⟩
    refine ws_asg (s := .im (.int (fulA n (i + 1)))) (es_lf (ev_fdiv (ev_mul (ev_mul ev_v (ev_sub ev_v (ev_mul ev_int ev_v ?_)) ?_) (ev_sub (ev_sub ev_v (ev_mul ev_int ev_v ?_)) ev_int) ?_) ev_int ?_) lf_int) ?_
    · refine wide_mul (a := 64) (b := 64) (by decide) ?_ (by decide) (by decide) (by decide)
      omega
    · refine wide_mul (a := 64) (b := 64) hb ?_ (by decide) (by decide) (by decide)
      omega
    · refine wide_mul (a := 64) (b := 64) (by decide) ?_ (by decide) (by decide) (by decide)
      omega
    · refine wide_mul (a := 128) (b := 64) ?_ ?_ (by decide) (by decide) (by decide)
      · have h2 : ((n : Int) - 2 * (i : Int)).natAbs < 2 ^ 64 := by omega
        rw [Int.natAbs_mul]
        exact Nat.lt_of_lt_of_le (Nat.mul_lt_mul_of_le_of_lt (Nat.le_of_lt hb) h2 (by decide)) (by decide)
      · omega
    · exact ⟨by decide, by decide⟩
    · exact .same (.same (.same (.drop .nil)))
  refine ws_s (ws_forE (ds := (List.range j).map nD) (ev := fun i => [.im (nD n), .im (nD j), .im (.int (fulB (fulA n j) i)), .no]) (by rw [← rangeD_nat]; exact ez_rng1 ev_v (by omega) (by omega)) ?_ (fun i d hd => ?_) rfl) ?_
  · simp only [List.length_map, List.length_range]
    exact Fg.refl _
  · obtain ⟨r, hr', rfl⟩ := map_at hd
    have hin : i < j := by simpa using (List.getElem?_eq_some_iff.mp hr').1
    rw [List.getElem?_range hin] at hr'
    obtain rfl := Option.some.inj hr'
    refine ⟨_, bd_name, ?_⟩
    refine ws_asg (s := .im (.int (fulB (fulA n j) (i + 1)))) (es_lf (ev_fdiv ev_v (ev_add ev_v ev_int) ?_) lf_int) ?_
    · refine ⟨by omega, ?_⟩
      have : ((i : Int) + 1).natAbs < 2 ^ 64 := by omega
      exact Nat.lt_of_lt_of_le (PySem.Flt.log2_lt_of (by decide) this) (by decide)
    · exact .same (.same (.same (.drop .nil)))
  refine ws_ret ev_v fun v σ H' r hd => hr _ v σ H' r ?_
  simp only [List.length_map, List.length_range] at hd
  exact hd
end K72
/-! K72W6: _law_web. -/
namespace K72
open PySem PySem.Spec L2 VL

theorem rd_pick_eq (K : PySem.W.Frag) : rd_law_pick K = rdPick K := rfl
theorem rd_open_eq (K : PySem.W.Frag) : rd_law_open_cells K = rdOpen K := rfl
/-- a web as it is drawn -/
structure WebOk (n : Nat) (most : Int) (ts : List Tie) : Prop where
  ord : ∀ e ∈ ts, e.1 < e.2 ∧ e.2 < n
  nd : ts.Nodup
  le : (ts.length : Int) ≤ most
def SgWeb : List D → D → Prop := fun ds d => ∃ (n : Nat) (most : Int), n ≤ 1000 ∧ 0 ≤ most ∧ most ≤ 1000000 ∧ ds = [nD n, .int most] ∧ ∃ ts, WebOk n most ts ∧ d = wD n ts
theorem w_law_web {K : PySem.W.Frag} {H : Hp} {Q : VK} {d c : Addr} {n : Nat} {most : Int} (hn : n ≤ 1000) (h0 : 0 ≤ most) (h1 : most ≤ 1000000)
    (q : ∀ ts v H', WebOk n most ts → (∀ a o, a ≠ d → a ≠ c → H a = some o → H' a = some o) → Src d c H' → Dq K H' v (wD n ts) → Q v H') :
    WpS K (offS d c H) (rd_law_web K spPick) [.cu (srcC d c), .im (nD n), .im (.int most), .no, .no, .no] { nx := fun _ => False, rt := Q } := by
  unfold rd_law_web
  refine ws_s (ws_asg (s := .ow (([] : List Tie).map tD)) (es_f (ef_lst ea_nil (by show 0 ≤ sizeLine; decide)) rfl) rfl) ?_
  refine ws_seq (M := fun e => ∃ ts, e = [.cu (srcC d c), .im (nD n), .im (.int most), .ow (ts.map tD), .no, .no] ∧ WebOk n most ts) ?_ ?_
  · refine ws_for (ds := (List.range n).map nD) (I := fun a e => ∃ ts, e = [.cu (srcC d c), .im (nD n), .im (.int most), .ow (ts.map tD), .no, .no] ∧ WebOk n most ts ∧ ∀ e ∈ ts, e.1 < a) (by rw [← rangeD_nat]; exact ez_rng1 ev_v (by omega) (by omega)) ⟨_, Fg.refl _, [], rfl, ⟨by simp, List.nodup_nil, by simpa using h0⟩, by simp⟩ ?_ ?_
    · rintro a d' e hd ⟨ts, rfl, hw, ha⟩
      obtain ⟨r, hr', rfl⟩ := map_at hd
      have hin : a < n := by simpa using (List.getElem?_eq_some_iff.mp hr').1
      rw [List.getElem?_range hin] at hr'
      obtain rfl := Option.some.inj hr'
      refine ⟨_, bd_name, ?_⟩
      refine ws_for (ds := (List.range (n - (a + 1))).map fun j => nD (a + 1 + j)) (I := fun b e => ∃ ts, e = [.cu (srcC d c), .im (nD n), .im (.int most), .ow (ts.map tD), .im (nD a), .no] ∧ WebOk n most ts ∧ ∀ e ∈ ts, e.1 < a ∨ (e.1 = a ∧ e.2 < a + 1 + b)) ?_ ⟨_, Fg.refl _, ts, rfl, hw, fun e he => .inl (ha e he)⟩ ?_ ?_
      · have e : rangeD ((a : Nat) + 1 : Int) (n : Nat) = (List.range (n - (a + 1))).map fun j => nD (a + 1 + j) := by
          unfold rangeD
          have : ((n : Int) - ((a : Nat) + 1 : Int)).toNat = n - (a + 1) := by omega
          rw [this]
          apply List.map_congr_left
          intro j _
          simp [nD]
        rw [← e]
        exact ez_rng2 (ev_add ev_v ev_int) ev_v ⟨by omega, by omega, by omega, by omega⟩
      · rintro b d' e hd ⟨ts, rfl, hw, ha⟩
        obtain ⟨j, hj, rfl⟩ := map_at hd
        have hjn : b < n - (a + 1) := by simpa using (List.getElem?_eq_some_iff.mp hj).1
        rw [List.getElem?_range hjn] at hj
        obtain rfl := Option.some.inj hj
        refine ⟨_, bd_name, ?_⟩
        refine ws_ifX (PB := fun z => z = true → decide ((ts.length : Int) < most) = true ∧ True) (exb_and (eb_test (ev_lt ((ev_lenL ev_v).cast (e := .int (ts.length : Nat)) (by simp)) ev_v)) fun _ => ex_eqI ((ex_pick (n := 0) (da := d) (ca := c) (k := 2) rfl (ex_z (ez_lf ev_int lf_int) rfl)).mono fun d ⟨r, e, _⟩ => ⟨r, e⟩) ev_int) (fun hz => ?_) (fun _ => ?_)
        · have hlt : (ts.length : Int) < most := of_decide_eq_true (hz rfl).1
          refine ws_append (n := 3) (d := tD (a, a + 1 + b)) rfl (ev_tup (ea_cons ev_v (ea_cons ev_v ea_nil))) lf_tD (by simp only [List.length_map]; omega) ?_
          refine ⟨_, .same (.same (.same (.same (.same (.drop .nil))))), ts ++ [(a, a + 1 + b)], by rw [List.map_append (f := tD)]; rfl, ⟨fun e he => ?_, ?_, ?_⟩, fun e he => ?_⟩
          · rcases List.mem_append.mp he with he | he
            · exact hw.ord e he
            · rw [List.mem_singleton.mp he]; exact ⟨by show a < a + 1 + b; omega, by show a + 1 + b < n; omega⟩
          · refine List.nodup_append.mpr ⟨hw.nd, by simp, fun x hx y hy z => ?_⟩
            rw [List.mem_singleton.mp hy] at z
            subst z
            rcases ha _ hx with h | h
            · simp at h
            · simp at h
          · simp only [List.length_append, List.length_cons, List.length_nil]; omega
          · rcases List.mem_append.mp he with he | he
            · rcases ha e he with h | h
              · exact .inl h
              · exact .inr ⟨h.1, by omega⟩
            · rw [List.mem_singleton.mp he]; exact .inr ⟨rfl, by show a + 1 + b < a + 1 + (b + 1); omega⟩
        · refine ws_next ⟨_, .same (.same (.same (.same (.same (.drop .nil))))), ts, rfl, hw, fun e he => ?_⟩
          rcases ha e he with h | h
          · exact .inl h
          · exact .inr ⟨h.1, by omega⟩
      · rintro e ⟨ts, rfl, hw, ha⟩
        refine ⟨_, .same (.same (.same (.same (.drop (.same .nil))))), ts, rfl, hw, fun e he => ?_⟩
        rcases ha e he with h | h
        · omega
        · omega
    · rintro e ⟨ts, rfl, hw, _⟩
      exact ⟨ts, rfl, hw⟩
  · rintro e ⟨ts, rfl, hw⟩
    refine ws_ret (ev_tup (ds := [nD n, .tuple (ts.map tD)]) (ea_cons ev_v (ea_cons (ev_tupleL ev_v) ea_nil))) fun v σ H' r hd => ?_
    obtain ⟨k, s⟩ := src_finC r rfl
    exact q ts v H' hw k s hd
end K72
/-! K72S: what the law reckons by itself. -/
namespace K72
open VL

/-! ### all pairs, and how many pairings they have -/
def knL (m : Nat) : List Int := (List.range (m / 2 + 1)).map fun j => ful m j
theorem knL_step : ∀ m, m < 8 → knL (m + 2) = pAdd (knL (m + 1)) (0 :: (knL m).map fun c => ((m + 1 : Nat) : Int) * c) 1 := by decide +kernel
theorem ev_smul (x s : Int) : ∀ l : List Int, ev x (l.map fun c => s * c) = s * ev x l
  | [] => by simp [ev]
  | c :: l => by
    simp only [List.map_cons, ev, ev_smul x s l]
    grind
theorem ev_knL (x : Int) : ∀ m, m < 10 → ev x (knL m) = Kn x m
  | 0, _ => by
    have : knL 0 = [1] := by decide +kernel
    rw [this]; simp [ev, Kn]
  | 1, _ => by
    have : knL 1 = [1] := by decide +kernel
    rw [this]; simp [ev, Kn]
  | m + 2, h => by
    rw [knL_step m (by omega), ev_pAdd, ev_knL x (m + 1) (by omega)]
    simp only [ev, ev_smul, ev_knL x m (by omega), Kn]
    grind
/-- one due number -/
def dueS : List Int → Nat → Nat → Int
  | [], _, _ => 0
  | c :: cs, n, 0 => c * ful n 0
  | c :: cs, n, k + 1 => c * ful n (k + 1) - dueS cs (n - 2) k
def dueL (cs : List Int) (n : Nat) : List Int := (List.range (n / 2 + 1)).map (dueS cs n)
theorem ev_map_add (x : Int) (f g : Nat → Int) : ∀ l : List Nat, ev x (l.map fun k => f k + g k) = ev x (l.map f) + ev x (l.map g)
  | [] => by simp [ev]
  | k :: l => by
    simp only [List.map_cons, ev, ev_map_add x f g l]
    grind
theorem ev_dueL (x : Int) : ∀ (cs : List Int) (n : Nat), n < 10 → cs.length ≤ n / 2 + 1 → ev x (dueL cs n) = L (fun i => (-x) ^ i * Kn x (n - 2 * i)) cs
  | [], n, _, _ => by
    have : dueL [] n = List.replicate (n / 2 + 1) 0 := by
      apply List.ext_getElem
      · simp [dueL]
      · intro i h1 h2
        simp [dueL, dueS]
    rw [this, ev_zeros]; rfl
  | c :: cs, n, hn, hl => by
    have hw : (fun k => (-x) ^ (k + 1) * Kn x (n - 2 * (k + 1))) = fun k => -x * ((-x) ^ k * Kn x (n - 2 - 2 * k)) := by
      funext k
      rw [Int.pow_succ, show n - 2 * (k + 1) = n - 2 - 2 * k by omega]
      grind
    have key : ev x (dueL (c :: cs) n) = c * Kn x n - x * L (fun i => (-x) ^ i * Kn x (n - 2 - 2 * i)) cs := by
      by_cases h2 : n < 2
      · have e0 : n / 2 = 0 := by omega
        have : cs = [] := by
          cases cs with
          | nil => rfl
          | cons => simp at hl; omega
        subst this
        have hk := ev_knL x n hn
        unfold knL at hk
        rw [e0] at hk
        simp only [dueL, e0, L]
        simp [ev, dueS] at hk ⊢
        rw [hk]
      · have ih := ev_dueL x cs (n - 2) (by omega) (by simp at hl; omega)
        have e1 : (n - 2) / 2 + 1 = n / 2 := by omega
        rw [← ih]
        have hk := ev_knL x n hn
        unfold knL at hk
        unfold dueL
        rw [e1]
        rw [List.range_succ_eq_map] at hk ⊢
        simp only [List.map_cons, List.map_map, ev] at hk ⊢
        rw [← hk]
        have hf : (List.range (n / 2)).map (dueS (c :: cs) n ∘ Nat.succ) = (List.range (n / 2)).map fun k => c * ful n (k + 1) + -1 * dueS cs (n - 2) k := by
          apply List.map_congr_left
          intro k _
          show dueS (c :: cs) n (k + 1) = _
          simp only [dueS]; omega
        rw [hf, ev_map_add]
        have h1 : ev x ((List.range (n / 2)).map fun k => c * ful n (k + 1)) = c * ev x ((List.range (n / 2)).map ((fun j => ful n j) ∘ Nat.succ)) := by
          rw [← ev_smul, List.map_map]; rfl
        have h3 : ev x ((List.range (n / 2)).map fun k => -1 * dueS cs (n - 2) k) = -1 * ev x ((List.range (n / 2)).map (dueS cs (n - 2))) := by
          rw [← ev_smul, List.map_map]; rfl
        rw [h1, h3]
        simp only [dueS]
        grind
    rw [key]
    simp only [L]
    rw [hw, L_smul]
    simp
    grind
/-- as the law adds it up -/
def dueT (cs : List Int) (n k i : Nat) : Int := (if i % 2 = 0 then 1 else 0 - 1) * cs.getD i 0 * ful (n - 2 * i) (k - i)
def totS (cs : List Int) (n k m : Nat) : Int := ((List.range m).map (dueT cs n k)).sum
theorem totS_succ (cs : List Int) (n k m : Nat) : totS cs n k (m + 1) = totS cs n k m + dueT cs n k m := by
  unfold totS
  rw [List.range_succ, List.map_append, List.sum_append]
  simp
theorem totS_cons (c : Int) (cs : List Int) (n k m : Nat) : totS (c :: cs) n (k + 1) (m + 1) = c * ful n (k + 1) - totS cs (n - 2) k m := by
  unfold totS
  rw [List.range_succ_eq_map, List.map_cons, List.sum_cons, List.map_map]
  have e0 : dueT (c :: cs) n (k + 1) 0 = c * ful n (k + 1) := by simp [dueT]
  have e1 : (List.range m).map (dueT (c :: cs) n (k + 1) ∘ Nat.succ) = (List.range m).map fun i => -1 * dueT cs (n - 2) k i := by
    apply List.map_congr_left
    intro i _
    show dueT (c :: cs) n (k + 1) (i + 1) = _
    unfold dueT
    have e3 : n - 2 * (i + 1) = n - 2 - 2 * i := by omega
    have e4 : k + 1 - (i + 1) = k - i := by omega
    rw [e3, e4, List.getD_cons_succ]
    by_cases h : i % 2 = 0
    · have h2 : ¬ (i + 1) % 2 = 0 := by omega
      rw [if_pos h, if_neg h2]; grind
    · have h2 : (i + 1) % 2 = 0 := by omega
      rw [if_neg h, if_pos h2]; grind
  have hs : ∀ l : List Nat, (l.map fun i => -1 * dueT cs (n - 2) k i).sum = -1 * (l.map (dueT cs (n - 2) k)).sum := by
    intro l
    induction l with
    | nil => simp
    | cons a l ih => simp only [List.map_cons, List.sum_cons, ih]; grind
  rw [e0, e1, hs]
  grind
theorem totS_due : ∀ (cs : List Int) (n k : Nat), totS cs n k (min (k + 1) cs.length) = dueS cs n k
  | [], n, k => by simp [totS, dueS]
  | c :: cs, n, 0 => by
    have : min (0 + 1) (c :: cs).length = 1 := by simp only [List.length_cons]; omega
    rw [this]
    simp [totS, dueS, dueT, List.range_succ]
  | c :: cs, n, k + 1 => by
    have : min (k + 1 + 1) (c :: cs).length = min (k + 1) cs.length + 1 := by simp only [List.length_cons]; omega
    rw [this, totS_cons, totS_due cs (n - 2) k]
    rfl
theorem due_rest {n : Nat} {ts : List Tie} (hn : n < 10) (ho : Ord n ts) (nd : ts.Nodup) (x : Int) : ev x (dueL (mcount ts) n) = M x (comp (List.range n) ts) := by
  have hl := mcount_len ts (List.range n) List.nodup_range (within_among ho.within)
  rw [List.length_range] at hl
  rw [ev_dueL x _ n hn hl, M_comp x ts (List.range n) List.nodup_range (fun e he => ?_) nd, List.length_range]
  · rfl
  · obtain ⟨a, b⟩ := ho e he
    exact pairs_range a b
where
  pairs_range {n : Nat} {e : Tie} (h : e.1 < e.2) (h2 : e.2 < n) : e ∈ pairs (List.range n) := by
    have : ∀ (V : List Nat) (i j : Nat) (hi : i < j) (hj : j < V.length), (V[i], V[j]) ∈ pairs V := by
      intro V
      induction V with
      | nil => intro i j _ hj; simp at hj
      | cons v V ih =>
        intro i j hi hj
        unfold pairs
        cases j with
        | zero => omega
        | succ j =>
          cases i with
          | zero => exact List.mem_append.mpr (.inl (List.mem_map.mpr ⟨V[j]'(by simpa using hj), List.getElem_mem _, rfl⟩))
          | succ i => exact List.mem_append.mpr (.inr (ih i j (by omega) (by simpa using hj)))
    have := this (List.range n) e.1 e.2 h (by simpa using h2)
    simpa using this
/-- noughts behind are taken away -/
theorem trim_end {l : List Int} {ts : List Tie} (h : ∀ x, ev x l = M x ts) (hne : l ≠ []) (hs : ¬ (1 < l.length ∧ l.getD (l.length - 1) 0 = 0)) : l = mcount ts := by
  refine counts_unique ?_ h
  have hp := List.length_pos_iff.mpr hne
  have g : l.getLast? = some (l.getD (l.length - 1) 0) := by
    rw [List.getLast?_eq_getElem?, List.getElem?_eq_getElem (by omega), List.getD_eq_getElem?_getD, List.getElem?_eq_getElem (by omega)]
    rfl
  refine ⟨_, g, fun z => ?_⟩
  by_cases h1 : 1 < l.length
  · exact hs ⟨h1, z⟩
  · obtain ⟨c, rfl⟩ : ∃ c, l = [c] := by
      cases l with
      | nil => exact absurd rfl hne
      | cons c r => cases r with
        | nil => exact ⟨c, rfl⟩
        | cons => simp at h1
    have c0 : c = 0 := by simpa using z
    have := h 1
    rw [c0] at this
    have := (M1_le ts).1
    simp [ev] at *
    omega
theorem trim_step {l : List Int} {c : Int} {x : Int} (h : c = 0) : ev x (l ++ [c]) = ev x l := by
  rw [ev_append, h]; simp [ev]

/-! ### the cone -/
def moreA (cs : List Int) (n : Nat) (i : Nat) : List Int := 0 :: (List.range i).map fun k => cs.getD k 0 * ((n : Int) - 2 * k)
theorem ev_range (x : Int) (w : Nat → Int) : ∀ (cs : List Int), ev x ((List.range cs.length).map fun k => cs.getD k 0 * w k) = L (fun k => w k * x ^ k) cs
  | [] => by simp [ev, L]
  | c :: cs => by
    rw [List.length_cons, List.range_succ_eq_map, List.map_cons, List.map_map]
    have e : ((fun k => (c :: cs).getD k 0 * w k) ∘ Nat.succ) = fun k => cs.getD k 0 * w (k + 1) := by funext k; simp
    have ih := ev_range x (fun k => w (k + 1)) cs
    have h2 : (fun k => w (k + 1) * x ^ (k + 1)) = fun k => x * (w (k + 1) * x ^ k) := by funext k; rw [Int.pow_succ]; grind
    rw [e]
    simp only [ev, L, ih, h2, L_smul]
    simp
def coneT (n : Nat) (ts : List Tie) : List Tie := srt (ts ++ (List.range n).map fun a => (a, n))
theorem due_cone {n : Nat} {ts : List Tie} (ho : Ord n ts) (x : Int) : ev x (((mcount ts ++ [0]).zip (moreA (mcount ts) n (mcount ts).length)).map fun p : Int × Int => p.1 + 1 * p.2) = M x (coneT n ts) := by
  rw [ev_zip x 1 _ _ (by simp [moreA]), M_cone x (cone := coneT n ts) ho.within (srt_perm _), ev_append]
  have e : ev x (moreA (mcount ts) n (mcount ts).length) = x * L (fun k => ((n : Int) - 2 * (k : Int)) * x ^ k) (mcount ts) := by
    unfold moreA
    simp only [ev]
    rw [ev_range x (fun k => (n : Int) - 2 * k)]
    simp
  rw [e]
  simp [ev, M]

/-! ### beside each other -/
theorem beside_counts {n m : Nat} {ts us : List Tie} (h1 : Ord n ts) : mcount (srt (ts ++ us.map (shiftT n))) = pMul (mcount ts) (mcount us) := by
  symm
  refine counts_unique (can_mul (mcount_can _) (mcount_can _)).tip fun x => ?_
  rw [ev_pMul, M_of_perm (srt_perm _), M_beside x _ _ fun e he f hf => ?_, M_map x (shiftT n) us fun e _ f _ => ?_]
  · rfl
  · rw [Bool.eq_iff_iff, dis_iff, dis_iff]
    simp [shiftT]
  · obtain ⟨u, _, rfl⟩ := List.mem_map.mp hf
    obtain ⟨a, b⟩ := h1 e he
    rw [dis_iff]
    simp only [shiftT]
    omega
theorem beside_ord {n m : Nat} {ts us : List Tie} (h1 : Ord n ts) (h2 : Ord m us) : Ord (n + m) (srt (ts ++ us.map (shiftT n))) := fun e he => by
  have := (srt_perm _).mem_iff.mp he
  rcases List.mem_append.mp this with h | h
  · have := h1 e h; omega
  · obtain ⟨u, hu, rfl⟩ := List.mem_map.mp h
    have := h2 u hu
    simp only [shiftT]; omega
theorem cone_ord {n : Nat} {ts : List Tie} (h1 : Ord n ts) : Ord (n + 1) (coneT n ts) := fun e he => by
  have := (srt_perm _).mem_iff.mp he
  rcases List.mem_append.mp this with h | h
  · have := h1 e h; omega
  · obtain ⟨a, ha, rfl⟩ := List.mem_map.mp h
    have := List.mem_range.mp ha
    simp only; omega
theorem pairs_ord (n : Nat) : Ord n (pairs (List.range n)) := fun e he => by
  have key : ∀ V : List Nat, V.Pairwise (· < ·) → ∀ e ∈ pairs V, e.1 < e.2 := by
    intro V
    induction V with
    | nil => intro _ e he; cases he
    | cons v V ih =>
      intro hp e he
      obtain ⟨p1, p2⟩ := List.pairwise_cons.mp hp
      unfold pairs at he
      rcases List.mem_append.mp he with h | h
      · obtain ⟨u, hu, rfl⟩ := List.mem_map.mp h
        exact p1 u hu
      · exact ih p2 e h
  exact ⟨key _ List.pairwise_lt_range e he, List.mem_range.mp (pairs_mem he).2⟩
theorem comp_ord (n : Nat) (ts : List Tie) : Ord n (comp (List.range n) ts) := fun e he => pairs_ord n e (List.mem_filter.mp he).1
theorem pairs_len (V : List Nat) : 2 * (pairs V).length + V.length = V.length * V.length := by
  induction V with
  | nil => rfl
  | cons v V ih =>
    unfold pairs
    rw [List.length_append, List.length_map, List.length_cons]
    have : (V.length + 1) * (V.length + 1) = V.length * V.length + 2 * V.length + 1 := by grind
    omega
theorem comp_len {n : Nat} (ts : List Tie) (hn : n < 10) : (comp (List.range n) ts).length ≤ 36 := by
  have h1 : (comp (List.range n) ts).length ≤ (pairs (List.range n)).length := List.length_filter_le _ _
  have h2 := pairs_len (List.range n)
  rw [List.length_range] at h2
  have h3 : n * n ≤ 9 * n := Nat.mul_le_mul_right n (by omega)
  omega
end K72
/-! K72W7: _law_counts. -/
namespace K72
open PySem PySem.Spec L2 VL

/-! ### keys -/
def tieK (t : Tie) : NestedKey := .tup [.num (t.1 : Nat), .num (t.2 : Nat)]
def keyOf (m : Nat) (us : List Tie) : NestedKey := .tup [.num (m : Nat), .tup (us.map tieK)]
theorem datas_ties : ∀ us : List Tie, NestedKey.datas (us.map tieK) = us.map tD
  | [] => by simp [NestedKey.datas]
  | t :: us => by simp [NestedKey.datas, NestedKey.data, tieK, datas_ties us]
theorem key_data (m : Nat) (us : List Tie) : (keyOf m us).data = wD m us := by
  simp [keyOf, NestedKey.data, NestedKey.datas, datas_ties]
theorem key_depth (m : Nat) (us : List Tie) : (keyOf m us).depth ≤ 8 := by
  have h : ∀ us : List Tie, NestedKey.depthAll (us.map tieK) ≤ 1 := by
    intro us
    induction us with
    | nil => simp [NestedKey.depthAll]
    | cons t us ih =>
      simp only [List.map_cons, NestedKey.depthAll, tieK, NestedKey.depth]
      omega
  have := h us
  simp only [keyOf, NestedKey.depth, NestedKey.depthAll]
  omega
theorem tieK_inj {s t : Tie} (h : tieK s = tieK t) : s = t := by
  simp only [tieK, NestedKey.tup.injEq, List.cons.injEq, NestedKey.num.injEq, and_true] at h
  exact Prod.ext (by omega) (by omega)
theorem ties_inj : ∀ {us vs : List Tie}, us.map tieK = vs.map tieK → us = vs
  | [], [], _ => rfl
  | [], _ :: _, h => by simp at h
  | _ :: _, [], h => by simp at h
  | s :: us, t :: vs, h => by
    simp only [List.map_cons, List.cons.injEq] at h
    rw [tieK_inj h.1, ties_inj h.2]
theorem keyOf_inj {m m' : Nat} {us us' : List Tie} (h : keyOf m us = keyOf m' us') : us = us' := by
  simp only [keyOf, NestedKey.tup.injEq, List.cons.injEq, and_true] at h
  exact ties_inj h.2

/-! ### the memo -/
def isSeq : HO → Bool
  | .lst _ => true
  | o => isTup o
theorem dq_seq {K : PySem.W.Frag} {H H' : Hp} (e : ∀ b o, H b = some o → isSeq o = true → H' b = some o) : (∀ (v : V) (d : D), Dq K H v d → Dq K H' v d) ∧ (∀ (vs : List V) (ds : List D), Dqs K H vs ds → Dqs K H' vs ds) := by
  have et : TupEx H H' := fun a o h t => e a o h (by cases o <;> first | exact t | rfl)
  refine ⟨fun v d h => ?_, fun vs ds h => ?_⟩
  · refine Dq.rec (motive_1 := fun v d _ => Dq K H' v d) (motive_2 := fun vs ds _ => Dqs K H' vs ds) .non (fun b => .bl b) (fun i => .int i) (fun x => .str x) (fun hs _ ih => .lst (e _ _ hs rfl) ih) (fun hs _ ih => .tup (et.sqt hs) ih) .nil (fun _ _ h1 h2 => .cons h1 h2) h
  · refine Dqs.rec (motive_1 := fun v d _ => Dq K H' v d) (motive_2 := fun vs ds _ => Dqs K H' vs ds) .non (fun b => .bl b) (fun i => .int i) (fun x => .str x) (fun hs _ ih => .lst (e _ _ hs rfl) ih) (fun hs _ ih => .tup (et.sqt hs) ih) .nil (fun _ _ h1 h2 => .cons h1 h2) h
def offA (a : Addr) (H : Hp) : Hp := fun b => if b = a then none else H b
theorem offA_ex (a : Addr) (H : Hp) : Ex (offA a H) H := fun b o e => by
  unfold offA at e
  split at e
  · cases e
  · exact e
theorem offA_keep {a : Addr} {H H' : Hp} (x : Ex (offA a H) H') : ∀ b o, b ≠ a → H b = some o → H' b = some o := fun b o h e => x b o (by unfold offA; rw [if_neg h]; exact e)
theorem offA_seq {a : Addr} {H : Hp} {w : World} {es : List NE} (h : H a = some (dnO w a es)) : ∀ b o, H b = some o → isSeq o = true → offA a H b = some o := fun b o e t => by
  unfold offA
  rw [if_neg]
  · exact e
  · rintro rfl
    rw [h] at e
    cases e
    cases t
def Memo (K : PySem.W.Frag) (w : World) (a : Addr) (N : Nat) (F : Addr → Prop) (G : List NE → Prop) (Z H : Hp) : Prop := ∃ es, H a = some (dnO w a es) ∧ es.length ≤ N ∧ G es ∧ ∀ x ∈ es, ∃ m us, x.1 = keyOf m us ∧ Dq K Z (.ref x.2.1) (wD m us) ∧ F x.2.2 ∧ Dq K Z (.ref x.2.2) (.list (iD (mcount us)))
theorem Memo.mono {K : PySem.W.Frag} {w : World} {a : Addr} {N N' : Nat} {F : Addr → Prop} {G G' : List NE → Prop} {Z Z' H H' : Hp} (m : Memo K w a N F G Z H) (hz : ∀ v d, Dq K Z v d → Dq K Z' v d) (ha : H' a = H a) (hN : N ≤ N') (hG : ∀ es, G es → G' es) : Memo K w a N' F G' Z' H' := by
  obtain ⟨es, h1, h2, h3, h4⟩ := m
  refine ⟨es, by rw [ha]; exact h1, Nat.le_trans h2 hN, hG _ h3, fun x hx => ?_⟩
  obtain ⟨m, us, e1, e2, e3, e4⟩ := h4 x hx
  exact ⟨m, us, e1, hz _ _ e2, e3, hz _ _ e4⟩
def memoC (K : PySem.W.Frag) (w : World) (a : Addr) (N : Nat) (F : Addr → Prop) (G : List NE → Prop) : Cu where
  φ v fp Z H := v = .ref a ∧ fp = [a] ∧ Memo K w a N F G Z H ∧ ∀ l, Z l = none → l ≠ a → F l
  st v fp Z Z' H H' ez k h := by
    obtain ⟨e1, e2, e3, e4⟩ := h
    refine ⟨e1, e2, e3.mono (fun v d q => dq_mono q ez) (k a (by simp [e2])) (Nat.le_refl _) fun _ g => g, fun l hl => e4 l (Evl.fresh_back ez hl)⟩
  mu v fp Z H h b hb := by
    obtain ⟨e1, e2, ⟨es, e3, _⟩, e4⟩ := h
    rw [e2] at hb
    rw [List.mem_singleton.mp hb]
    exact ⟨_, e3, rfl⟩
def has (k : NestedKey) (es : List NE) : Prop := (valN es k).isSome = true
def yes (_ : List NE) : Prop := True
/-- how many entries a call may add -/
def grow : Nat → Nat
  | 0 => 1
  | 1 => 2
  | n + 2 => 1 + grow (n + 1) + 36 * grow n
def spCnt (K : PySem.W.Frag) (w : World) (m : Nat) : Sp := fun vs H Q _ => ∃ (a : Addr) (n : Nat) (ts : List Tie) (v : V) (N : Nat) (F : Addr → Prop), vs = [.int n, v, .ref a] ∧ n < m ∧ Ord n ts ∧ ts.length ≤ 36 ∧ Dq K H v (.tuple (ts.map tD)) ∧ Memo K w a N F yes H H ∧ N + grow n ≤ 16000000 ∧ (∀ l, H l = none → F l) ∧
  ∀ l H', (∀ b o, b ≠ a → H b = some o → H' b = some o) → Memo K w a (N + grow n) F yes H' H' → F l → Dq K H' (.ref l) (.list (iD (mcount ts))) → Q (.ref l) H'
section
variable {K : PySem.W.Frag} {w : World} {B B' Z Z' H H' : Hp} {fps : Nat → List Addr} {env : VL.Env} {σ : St} {a : Addr} {N n m : Nat} {F : Addr → Prop} {G : List NE → Prop} {ts us : List Tie} {tn tt : TE} {E : En} {X : XK}
theorem valN_mem {es : List NE} {k : NestedKey} {l : Addr} (h : valN es k = some l) : ∃ x ∈ es, x.1 = k ∧ x.2.2 = l := by
  unfold valN at h
  obtain ⟨x, hx, e⟩ := Option.map_eq_some_iff.mp h
  have h1 := List.find?_some hx
  exact ⟨x, List.mem_of_find?_eq_some hx, by simpa using h1, e⟩
theorem valN_put (es : List NE) (k : NestedKey) (b l : Addr) : has k (putN es k b l) := by
  unfold has putN
  split
  · rename_i h
    unfold valN at h ⊢
    rw [Option.isSome_map] at h ⊢
    rw [List.find?_isSome] at h ⊢
    obtain ⟨x, hx, e⟩ := h
    refine ⟨(x.1, x.2.1, l), List.mem_map.mpr ⟨x, hx, ?_⟩, by simpa using e⟩
    rw [if_pos (by simpa using e)]
  · unfold valN
    rw [Option.isSome_map, List.find?_isSome]
    exact ⟨(k, b, l), by simp, by simp⟩
theorem memo_dn (h : Memo K w a N F G Z H) (ez : Ex Z H) : ∃ es, DN K w H a es ∧ es.length ≤ N ∧ G es ∧ ∀ x ∈ es, ∃ m us, x.1 = keyOf m us ∧ Dq K Z (.ref x.2.1) (wD m us) ∧ F x.2.2 ∧ Dq K Z (.ref x.2.2) (.list (iD (mcount us))) := by
  obtain ⟨es, h1, h2, h3, h4⟩ := h
  refine ⟨es, ⟨h1, fun x hx => ?_⟩, h2, h3, h4⟩
  obtain ⟨m, us, e1, e2, _, _⟩ := h4 x hx
  rw [e1]
  exact ⟨key_depth m us, by rw [key_data]; exact dq_mono e2 ez⟩
/-- is the key there? -/
theorem ws_ifN {t u : TS} (h2 : env[2]? = some (.cu (memoC K w a N F yes))) (h3 : env[3]? = some (.im (wD n ts))) (k1 : WpS K B t env E) (k2 : WpS K B u (env.set 2 (.cu (memoC K w a N F (has (keyOf n ts))))) E) : WpS K B (tIfS (tB (tNNotIn K w (tVar 3) (tVar 2))) t u) env E := fun B' x σ H D r nx rt bk ct => by
  obtain ⟨Z, fps, r⟩ := r
  obtain ⟨v, e1, rfl, e2, hm, hF⟩ := r.cu h2
  obtain ⟨y, ey, hy⟩ := r.view (d := wD n ts) h3 rfl
  obtain ⟨b, xs, rfl, _, _⟩ := dq_tuple hy
  obtain ⟨es, dn, hl, hg, hes⟩ := memo_dn hm r.zh
  refine ⟨_, ey, _, e1, a, es, keyOf n ts, b, rfl, dn, rfl, ⟨key_depth n ts, by rw [key_data]; exact hy⟩, _, rfl, ?_⟩
  cases q : valN es (keyOf n ts) with
  | none => exact k1 B' x σ H D ⟨Z, fps, r⟩ nx rt bk ct
  | some l =>
    refine k2 B' x σ H D ?_ nx rt bk ct
    refine r.change (i := 2) (fp := [a]) (fun _ _ _ => rfl) ⟨_, by rw [e1]; rfl, rfl, rfl, ⟨es, dn.1, hl, by unfold has; rw [q]; rfl, hes⟩, hF⟩ (fun c hc => r.fr 2 c (by rw [e2]; exact hc)) fun j c hj hc hh => hj (r.dj j 2 c hh (by rw [e2]; exact hc))
/-- known[key] -/
theorem ws_retN (h2 : env[2]? = some (.cu (memoC K w a N F (has (keyOf n ts))))) (h3 : env[3]? = some (.im (wD n ts))) (k : ∀ l σ H', R K B env σ H' → Memo K w a N F yes H' H' → F l → Dq K H' (.ref l) (.list (iD (mcount ts))) → E.rt (.ref l) H') : WpS K B (tRet (tNGet K w (tVar 2) (tVar 3))) env E := fun B' x σ H D r nx rt bk ct => by
  obtain ⟨Z, fps, r⟩ := r
  obtain ⟨v, e1, rfl, e2, hm, hF⟩ := r.cu h2
  obtain ⟨y, ey, hy⟩ := r.view (d := wD n ts) h3 rfl
  obtain ⟨b, xs, rfl, _, _⟩ := dq_tuple hy
  obtain ⟨es, dn, hl, hg, hes⟩ := memo_dn hm r.zh
  obtain ⟨l, hv⟩ := Option.isSome_iff_exists.mp hg
  obtain ⟨z, hz, z1, z2⟩ := valN_mem hv
  obtain ⟨m', us, u1, u2, u3, u4⟩ := hes z hz
  have : us = ts := (keyOf_inj (z1.symm.trans u1)).symm
  subst this
  subst z2
  refine ⟨_, e1, _, ey, a, es, keyOf n us, b, z.2.2, rfl, dn, rfl, ⟨key_depth n us, by rw [key_data]; exact hy⟩, hv, ?_⟩
  exact rt _ H (k _ σ H (R.base ⟨Z, fps, r⟩ x) (hm.mono (fun v d q => dq_mono q r.zh) rfl (Nat.le_refl _) fun _ _ => trivial) u3 (dq_mono u4 r.zh))
/-- an entry is stored -/
theorem nput_core {b l : Addr} {es : List NE} (r : Rz K B Z fps env σ H) (h2 : env[2]? = some (.cu (memoC K w a N F yes))) (dn : H a = some (dnO w a es)) (hl : es.length ≤ N) (hes : ∀ x ∈ es, ∃ m us, x.1 = keyOf m us ∧ Dq K Z (.ref x.2.1) (wD m us) ∧ F x.2.2 ∧ Dq K Z (.ref x.2.2) (.list (iD (mcount us)))) (hk : Dq K Z (.ref b) (wD n ts)) (hF : F l) (hd : Dq K Z (.ref l) (.list (iD (mcount ts)))) : R K B (env.set 2 (.cu (memoC K w a (N + 1) F (has (keyOf n ts))))) σ (upd H a (dnO w a (putN es (keyOf n ts) b l))) := by
  obtain ⟨v, e1, rfl, e2, hm, hFz⟩ := r.cu h2
  refine r.change (i := 2) (fp := [a]) (fun c h1 h2 => upd_ne fun e => h2 (by simp [e])) ⟨_, by rw [e1]; rfl, rfl, rfl, ⟨_, upd_same, ?_, valN_put _ _ _ _, fun x hx => ?_⟩, hFz⟩ (fun c hc => r.fr 2 c (by rw [e2]; exact hc)) fun j c hj hc hh => hj (r.dj j 2 c hh (by rw [e2]; exact hc))
  · have := putN_len es (keyOf n ts) b l; omega
  · rcases putN_mem hx with hx | ⟨x1, x2, x3⟩
    · exact hes x hx
    · refine ⟨n, ts, x1, ?_, by rw [x2]; exact hF, by rw [x2]; exact hd⟩
      rcases x3 with x3 | ⟨y, hy, y1, y2⟩
      · rw [x3]; exact hk
      · obtain ⟨m', us', u1, u2, _, _⟩ := hes y hy
        rw [← y2]
        have : us' = ts := keyOf_inj (u1.symm.trans y1)
        subst this
        have em : m' = n := by
          have := u1.symm.trans y1
          simp only [keyOf, NestedKey.tup.injEq, List.cons.injEq, NestedKey.num.injEq] at this
          omega
        rw [← em]; exact u2
/-- known[key] = a new list -/
theorem ws_nputF {tv : TE} (h2 : env[2]? = some (.cu (memoC K w a N F yes))) (h3 : env[3]? = some (.im (wD n ts))) (hv : EvF K tv env (iD (mcount ts))) (hN : N < 16000000) (k : E.nx (env.set 2 (.cu (memoC K w a (N + 1) F (has (keyOf n ts)))))) : WpS K B (sNPut K w (tVar 2) (tVar 3) tv) env E := fun B' x σ H D r nx rt bk ct => by
  obtain ⟨Z, fps, r⟩ := r
  refine hv σ H r.rp _ fun p xs H1 hp x1 h1 hd => ?_
  obtain ⟨Z1, g, hz, hk⟩ := r.lfs_gro x1 (lfs_ints _) hd
  have r1 := r.mono g
  have zp : Z1 p = none := by rw [hk p xs h1]; exact r.zn hp
  have ez : Ex Z1 (upd Z1 p (.lst xs)) := Evl.Ex.new zp
  have g2 : Gro fps Z1 H1 (upd Z1 p (.lst xs)) H1 := ⟨ez, Evl.Ex.refl _, fun c o e => by
    by_cases hc : c = p
    · subst hc; rw [upd_same] at e; cases e; exact h1
    · rw [upd_ne hc] at e; exact r1.zh c o e, fun i c hc => by
      have : c ≠ p := fun e => by
        obtain ⟨o, eo, _⟩ := r.mu i c hc
        rw [e, hp] at eo; cases eo
      rw [upd_ne this]; exact r1.fr i c hc⟩
  have r2 := r1.mono g2
  obtain ⟨v, e1, rfl, e2, hm, hFz⟩ := r1.cu h2
  obtain ⟨es, dn, hl, hg, hes⟩ := memo_dn hm r1.zh
  obtain ⟨_, y, ey, hy⟩ := r1.sl 3 _ h3
  have ey' : σ[3]? = some (some y) := by
    cases q : σ[3]? with
    | none => rw [q] at ey; cases ey
    | some w => rw [q] at ey; cases w with
      | none => cases ey
      | some z => cases ey; rfl
  obtain ⟨b, ys, rfl, _, _⟩ := dq_tuple hy
  have pa : p ≠ a := fun e => by
    have := dn.1
    rw [← e, h1] at this
    cases this
  refine ⟨_, e1, _, ey', a, es, keyOf n ts, b, p, rfl, rfl, dn, rfl, ⟨key_depth n ts, by rw [key_data]; exact dq_mono hy r1.zh⟩, by show es.length < 2 ^ 24; omega, nx _ _ _ k ?_⟩
  refine nput_core r2 h2 dn.1 hl (fun x hx => ?_) (dq_mono hy ez) (hFz p zp pa) (.lst upd_same (dqs_mono hz ez))
  obtain ⟨m, us, u1, u2, u3, u4⟩ := hes x hx
  exact ⟨m, us, u1, dq_mono u2 ez, u3, dq_mono u4 ez⟩
/-- known[key] = x, x one's own list -/
theorem ws_nputO {i : Nat} (h2 : env[2]? = some (.cu (memoC K w a N F yes))) (h3 : env[3]? = some (.im (wD n ts))) (hi : env[i]? = some (.ow (iD (mcount ts)))) (i2 : i ≠ 2) (i3 : i ≠ 3) (hN : N < 16000000) (k : E.nx ((env.set i (.im (.list (iD (mcount ts))))).set 2 (.cu (memoC K w a (N + 1) F (has (keyOf n ts)))))) : WpS K B (sNPut K w (tVar 2) (tVar 3) (tVar i)) env E := fun B' x σ H D r nx rt bk ct => by
  obtain ⟨Z, fps, r⟩ := r
  obtain ⟨p, xs, p1, p2, p3, p4⟩ := r.own hi
  obtain ⟨v, e1, rfl, e2, hm, hFz⟩ := r.cu h2
  have pa : p ≠ a := fun e => i2 (r.dj i 2 p (by rw [p2]; simp) (by rw [e2, e]; simp))
  have hFp := hFz p (r.fr i p (by rw [p2]; simp)) pa
  obtain ⟨Z2, fps2, r2⟩ := R.freeze ⟨Z, fps, r⟩ hi
  have h2' : (env.set i (.im (.list (iD (mcount ts)))))[2]? = some (.cu (memoC K w a N F yes)) := by rw [List.getElem?_set_ne i2]; exact h2
  have h3' : (env.set i (.im (.list (iD (mcount ts)))))[3]? = some (.im (wD n ts)) := by rw [List.getElem?_set_ne i3]; exact h3
  have hi' : (env.set i (.im (.list (iD (mcount ts)))))[i]? = some (.im (.list (iD (mcount ts)))) := List.getElem?_set_self (List.getElem?_eq_some_iff.mp hi).1
  obtain ⟨v2, e1', rfl, e2', hm', hFz'⟩ := r2.cu h2'
  obtain ⟨es, dn, hl, hg, hes⟩ := memo_dn hm' r2.zh
  have get : ∀ {j : Nat} {d : VL.D}, (env.set i (.im (.list (iD (mcount ts)))))[j]? = some (.im d) → ∃ y, σ[j]? = some (some y) ∧ Dq K Z2 y d := fun {j d} h => by
    obtain ⟨_, y, ey, hy⟩ := r2.sl j _ h
    refine ⟨y, ?_, hy⟩
    cases q : σ[j]? with
    | none => rw [q] at ey; cases ey
    | some w => rw [q] at ey; cases w with
      | none => cases ey
      | some z => cases ey; rfl
  obtain ⟨y, ey, hy⟩ := get h3'
  obtain ⟨z, ez, hz⟩ := get hi'
  rw [p1] at ez
  cases ez
  obtain ⟨b, ys, rfl, _, _⟩ := dq_tuple hy
  refine ⟨_, p1, _, e1, _, ey, a, es, keyOf n ts, b, p, rfl, rfl, dn, rfl, ⟨key_depth n ts, by rw [key_data]; exact dq_mono hy r2.zh⟩, by show es.length < 2 ^ 24; omega, nx _ _ _ k ?_⟩
  exact nput_core r2 h2' dn.1 hl hes hy hFp hz
/-- nothing but the memo is one's own -/
def Clean (K : PySem.W.Frag) (env : VL.Env) : Prop := ∀ (j : Nat) (s : Sl), j ≠ 2 → env[j]? = some s → ∀ Z H ov fp, rep K Z H s ov fp → fp = []
theorem call_cnt (r : Rz K B Z fps env σ H) (hc : Clean K env) (h2 : env[2]? = some (.cu (memoC K w a N F yes))) (hn : EvD K tn env (.int (n : Nat))) (ht : EvD K tt env (.tuple (us.map tD))) (h1 : n < m) (ho : Ord n us) (hl : us.length ≤ 36) (hN : N + grow n ≤ 16000000) (Q : VK)
    (q : ∀ l Z' fps' H', Ex Z Z' → (∀ b o, b ≠ a → H b = some o → H' b = some o) → Rz K B Z' fps' (env.set 2 (.cu (memoC K w a (N + grow n) F yes))) σ H' → Clean K (env.set 2 (.cu (memoC K w a (N + grow n) F yes))) → F l → Dq K Z' (.ref l) (.list (iD (mcount us))) → Q (.ref l) H') : tCall (spCnt K w m) [] X (tCons tn (tCons tt (tCons (tVar 2) tNil))) σ H Q := by
  refine hn σ H r.rp _ fun x H1 x1 d1 => ?_
  have r1 := r.mono (r.grow x1)
  refine ht σ H1 r1.rp _ fun y H2 x2 d2 => ?_
  have r2 := r1.mono (r1.grow x2)
  obtain ⟨v, e1, rfl, e2, hm, hF⟩ := r2.cu h2
  obtain ⟨es0, ha0, _⟩ := id hm
  refine ⟨_, e1, a, n, us, y, N, F, by rw [dq_int d1]; rfl, h1, ho, hl, d2, hm.mono (fun v d q => dq_mono q r2.zh) rfl (Nat.le_refl _) fun _ g => g, hN, fun l hl => ?_, fun l H' keep hm' hFl hd => ?_⟩
  · refine hF l (Evl.fresh_back r2.zh hl) fun e => ?_
    rw [e, ha0] at hl; cases hl
  · obtain ⟨es, ha, _⟩ := id hm'
    have hz : ∀ v d, Dq K H' v d → Dq K (offA a H') v d := fun v d h => (dq_seq (offA_seq ha)).1 v d h
    have za : Z a = none := r.fr 2 a (by rw [e2]; simp)
    have ex : Ex Z (offA a H') := fun b o e => by
      have hb : b ≠ a := fun q => by rw [q, za] at e; cases e
      unfold offA
      rw [if_neg hb]
      exact keep b o hb (r2.zh b o e)
    have cl : Clean K (env.set 2 (.cu (memoC K w a (N + grow n) F yes))) := fun j s hj e => by
      rw [List.getElem?_set_ne (Ne.symm hj)] at e
      exact hc j s hj e
    refine q l (offA a H') (fun j => if j = 2 then [a] else []) H' ex (fun b o hb e => keep b o hb (x2 _ _ (x1 _ _ e))) ⟨r.bz.trans ex, offA_ex _ _, fun i b hb => ?_, fun i b hb => ?_, fun i j b hi hj => ?_, by simpa using r.len, fun i s e => ?_⟩ cl hFl (hz _ _ hd)
    · split at hb
      · rw [List.mem_singleton.mp hb]; unfold offA; rw [if_pos rfl]
      · cases hb
    · split at hb
      · rw [List.mem_singleton.mp hb]; exact ⟨_, ha, rfl⟩
      · cases hb
    · split at hi
      · split at hj
        · omega
        · cases hj
      · cases hi
    · by_cases h : i = 2
      · subst h
        rw [List.getElem?_set_self (List.getElem?_eq_some_iff.mp h2).1] at e
        cases e
        rw [if_pos rfl]
        refine ⟨_, by rw [e1]; rfl, rfl, rfl, hm'.mono hz rfl (Nat.le_refl _) fun _ g => g, fun c hc hca => ?_⟩
        have h' : H' c = none := by unfold offA at hc; rwa [if_neg hca] at hc
        have h2c : H2 c = none := by
          cases q : H2 c with
          | none => rfl
          | some o => rw [keep c o hca q] at h'; cases h'
        exact hF c (Evl.fresh_back r2.zh h2c) hca
      · rw [List.getElem?_set_ne (Ne.symm h)] at e
        rw [if_neg h]
        have hr := r.sl i s e
        have hf := hc i s h e Z H _ _ hr
        rw [hf] at hr
        exact rep_mono ex (fun b hb => nomatch hb) hr
end
end K72
/-! K72W8: _law_counts, the walk. -/
namespace K72
open PySem PySem.Spec L2 VL

def isClean : Sl → Bool
  | .no => true
  | .im _ => true
  | _ => false
def cleanFrom : Nat → List Sl → Bool
  | _, [] => true
  | i, s :: r => (i == 2 || isClean s) && cleanFrom (i + 1) r
section
variable {K : PySem.W.Frag} {w : World} {B B' Z Z' H H' : Hp} {fps : Nat → List Addr} {env : VL.Env} {σ : St} {a : Addr} {N n m : Nat} {F : Addr → Prop} {G : List NE → Prop} {ts us : List Tie} {tn tt tn0 : TE} {E : En} {X : XK}
theorem clean_of : ∀ {env : List Sl} {i : Nat}, cleanFrom i env = true → ∀ (j : Nat) (s : Sl), i + j ≠ 2 → env[j]? = some s → isClean s = true
  | [], _, _, _, _, _, e => by simp at e
  | t :: r, i, h, 0, s, hj, e => by
    simp only [cleanFrom, Bool.and_eq_true, Bool.or_eq_true, beq_iff_eq] at h
    cases e
    rcases h.1 with q | q
    · omega
    · exact q
  | t :: r, i, h, j + 1, s, hj, e => by
    simp only [cleanFrom, Bool.and_eq_true] at h
    exact clean_of h.2 j s (by omega) (by simpa using e)
theorem clean_env (h : cleanFrom 0 env = true) : Clean K env := fun j s hj e Z H ov fp hr => by
  have := clean_of h j s (by omega) e
  cases s with
  | no => exact hr
  | im d => exact hr.1
  | ow ds => cases this
  | o2 dss => cases this
  | cu c => cases this
/-- v, found = i, list(_law_counts(..)) -/
theorem ws_cnt1 {i : Int} (hc : cleanFrom 0 env = true) (h2 : env[2]? = some (.cu (memoC K w a N F yes))) (h0 : EvD K tn0 env (.int i)) (hn : EvD K tn env (.int (n : Nat))) (ht : EvD K tt env (.tuple (us.map tD))) (h1 : n < m) (ho : Ord n us) (hl : us.length ≤ 36) (hN : N + grow n ≤ 16000000)
    (k : E.nx (((env.set 2 (.cu (memoC K w a (N + grow n) F yes))).set 5 (.ow (iD (mcount us)))).set 4 (.im (.int i)))) :
    WpS K B (tAsg (tTup (tCons tn0 (tCons (tCB (rListQ K) (tCons (tCall (spCnt K w m) [] X (tCons tn (tCons tt (tCons (tVar 2) tNil)))) tNil)) tNil))) (gTup K 2 (gCons (gName 4) (gCons (gName 5) gNil)))) env E := fun B' x σ H D r nx _ _ _ => by
  obtain ⟨Z, fps, r⟩ := r
  refine h0 σ H r.rp _ fun v H1 x1 d1 => ?_
  have r1 := r.mono (r.grow x1)
  refine call_cnt r1 (clean_env hc) h2 hn ht h1 ho hl hN _ fun l Z' fps' H' ez keep r' cl hF hd => ?_
  obtain ⟨l', xs, e, hs, hxs⟩ := dq_list hd
  cases e
  refine ⟨l, xs, rfl, .inl (.inl (.inl (r'.zh _ _ hs))), fun p hp => ⟨by show 2 ≤ sizeLine; decide, fun q hq => ?_⟩⟩
  refine ⟨q, [v, .ref p], rfl, .inl (.inl upd_same), rfl, _, _, rfl, _, _, rfl, rfl, ?_⟩
  have g1 := r'.new0 (o := .lst xs) hp
  have r2 := r'.mono g1
  have g2 := r2.new0 (o := .tup [v, .ref p]) hq
  have r3 := r2.mono g2
  have pq : p ≠ q := fun e => by rw [← e, upd_same] at hq; cases hq
  have ns : (σ.set 4 (some v)).set 5 (some (V.ref p)) = (σ.set 5 (some (V.ref p))).set 4 (some v) := List.set_comm _ _ (by decide)
  have hv := dq_int d1
  subst hv
  obtain ⟨Z4, fps4, r4⟩ := r3.putS (i := 5) (s := .ow (iD (mcount us))) (v := .ref p) (fp := [p]) ⟨p, xs, rfl, rfl, by rw [upd_ne pq, upd_same], hxs⟩ (fun c hc => by rw [List.mem_singleton.mp hc]; exact r'.zn hp) fun j c hc hj => by
    rw [List.mem_singleton.mp hc] at hj
    obtain ⟨o, eo, _⟩ := r'.mu j p hj
    rw [hp] at eo; cases eo
  refine nx _ _ _ k ?_
  show R K B' _ ((σ.set 4 (some (V.int i))).set 5 (some (V.ref p))) _
  rw [ns]
  exact r4.put (i := 4) (.int i)
/-- late = [0] + _law_counts(..) -/
theorem ws_cnt2 (hc : cleanFrom 0 env = true) (h2 : env[2]? = some (.cu (memoC K w a N F yes))) (hn : EvD K tn env (.int (n : Nat))) (ht : EvD K tt env (.tuple (us.map tD))) (h1 : n < m) (ho : Ord n us) (hl : us.length ≤ 36) (hN : N + grow n ≤ 16000000) (hz : (mcount us).length ≤ 1000)
    (k : E.nx ((env.set 2 (.cu (memoC K w a (N + grow n) F yes))).set 8 (.im (.list (iD (0 :: mcount us)))))) :
    WpS K B (tAsg (tOp (rAddQ K) (tLst (tCons (tC (.int 0)) tNil)) (tCall (spCnt K w m) [] X (tCons tn (tCons tt (tCons (tVar 2) tNil))))) (gName 8)) env E := fun B' x σ H D r nx _ _ _ => by
  obtain ⟨Z, fps, r⟩ := r
  simp only [tAsg, tOp]
  refine (ef_lst (K := K) (env := env) (ds := [.int 0]) (ea_cons ev_int ea_nil) (by show 1 ≤ sizeLine; decide)) σ H r.rp _ fun p0 xs0 H1 n0 x1 hp0 hd0 => ?_
  have r1 := r.mono (r.grow x1)
  obtain ⟨v, e1, rfl, e2, hm, hFz⟩ := r1.cu h2
  obtain ⟨es, ha, _⟩ := id hm
  have pa : p0 ≠ a := fun e => by rw [e, ha] at hp0; cases hp0
  refine call_cnt r1 (clean_env hc) h2 hn ht h1 ho hl hN _ fun l Z' fps' H' ez keep r' cl hF hd => ?_
  obtain ⟨l', xs, e, hs, hxs⟩ := dq_list hd
  cases e
  have hlen := dqs_len hxs
  have hx0 : xs0 = [0].map V.int := dqs_ints_inv (ns := [0]) hd0
  refine .inr (.inl ⟨p0, l, xs0, xs, rfl, rfl, keep _ _ pa hp0, r'.zh _ _ hs, ?_, fun q hq => ?_⟩)
  · rw [hlen, hx0]
    show 1 + (iD (mcount us)).length ≤ 2 ^ 24
    simp only [iD, List.length_map]; omega
  · have g := r'.new (o := .lst (xs0 ++ xs)) hq
    have r2 := r'.mono g
    refine nx _ _ _ k (r2.put (d := .list (iD (0 :: mcount us))) (.lst upd_same ?_))
    have h0' : Dqs K (upd Z' q (.lst (xs0 ++ xs))) xs0 (iD [0]) := by rw [hx0]; exact dqs_ints [0]
    exact dqs_app h0' (dqs_mono hxs g.z)
theorem mcount_len36 (us : List Tie) (h : us.length ≤ 36) (n : Nat) (ho : Ord n us) (hn : n ≤ 100) : (mcount us).length ≤ 1000 := by
  have := mcount_len us (List.range n) List.nodup_range (within_among ho.within)
  rw [List.length_range] at this
  omega
theorem mcount_lenT : ∀ ts : List Tie, (mcount ts).length ≤ ts.length + 1 := by
  refine ties_ind (by rw [mcount_nil]; simp) fun e es h1 h2 => ?_
  rw [mcount_cons, pAdd_len, List.length_cons, List.length_cons]
  have := List.length_filter_le (dis e) es
  omega
theorem cntA_len (v : Nat) (ts : List Tie) (h : ts.length ≤ 36) : ∀ i, (cntA v ts i).length ≤ 40
  | 0 => by
    have h1 := mcount_lenT (wt ts v)
    have h2 : (wt ts v).length ≤ ts.length := List.length_filter_le _ _
    simp only [cntA]; omega
  | i + 1 => by
    have h1 := mcount_lenT (restOf v ((ups v ts).getD i 0) ts)
    have h2 := rest_len v ((ups v ts).getD i 0) ts
    have h3 := cntA_len v ts h i
    simp only [cntA, pAdd_len, List.length_cons]; omega
theorem sh_int (u a : Nat) : PyData.int ((a : Nat) - (if decide (((u : Nat) : Int) < ((a : Nat) : Int)) = true then 1 else 0 : Int)) = nD (sh u a) := by
  unfold sh
  by_cases h : u < a
  · have h2 : ((u : Nat) : Int) < ((a : Nat) : Int) := by omega
    rw [if_pos (decide_eq_true h2), if_pos h]
    show PyData.int _ = PyData.int _
    congr 1; omega
  · have h2 : ¬ ((u : Nat) : Int) < ((a : Nat) : Int) := by omega
    rw [if_neg (by rw [decide_eq_true_eq]; exact h2), if_neg h]
    show PyData.int _ = PyData.int _
    congr 1
theorem eqv_tnil (ts : List Tie) : PyData.eqv (.tuple (ts.map tD)) (.tuple []) = decide (ts = []) := by
  cases ts <;> simp [PyData.eqv, PyData.eqvAll]
theorem w_law_counts {Q : VK} (hn : n < m + 1) (hm : m ≤ 50) (ho : Ord n ts) (hl : ts.length ≤ 36) (hN : N + grow n ≤ 16000000)
    (q : ∀ l H', (∀ b o, b ≠ a → H b = some o → H' b = some o) → Memo K w a (N + grow n) F yes H' H' → F l → Dq K H' (.ref l) (.list (iD (mcount ts))) → Q (.ref l) H') :
    WpS K (offA a H) (rd_law_counts K w (spCnt K w m)) [.im (nD n), .im (.tuple (ts.map tD)), .cu (memoC K w a N F yes), .no, .no, .no, .no, .no, .no, .no, .no, .no, .no, .no, .no, .no, .no] { nx := fun _ => False, rt := Q } := by
  unfold rd_law_counts
  refine ws_s (ws_asg (s := .im (wD n ts)) (es_lf (ev_tup (ds := [nD n, .tuple (ts.map tD)]) (ea_cons ev_v (ea_cons ev_v ea_nil))) (lf_wD n ts)) rfl) ?_
  refine ws_seq (M := fun e => ∃ N', N' ≤ N + grow n ∧ e[2]? = some (.cu (memoC K w a N' F (has (keyOf n ts)))) ∧ e[3]? = some (.im (wD n ts))) ?_ ?_
  · refine ws_ifN (n := n) (ts := ts) rfl rfl ?_ (ws_next ⟨N, by omega, rfl, rfl⟩)
    refine ws_if (b := decide (n = 0) || decide (ts = [])) (eb_or (eb_test ((ev_eq (e := nD 0) ev_v ev_int (shp_int (n := 0)).sh (shp_int (n := 0)).sh).cast (by rw [eqv_nD]))) fun _ => eb_test ((ev_eq ev_v (ev_tup (ds := []) ea_nil (by show 0 ≤ sizeLine; decide)) (shp_tup (n := 1) (shp_map fun _ => shp_tD)).sh (shp_tup (n := 0) (ds := []) (by simp)).sh).cast (by rw [eqv_tnil]))) (fun hb => ?_) (fun hb => ?_)
    · have e : ts = [] := by
        rw [Bool.or_eq_true, decide_eq_true_eq, decide_eq_true_eq] at hb
        rcases hb with h | h
        · cases ts with
          | nil => rfl
          | cons t r => have := ho t (by simp); omega
        · exact h
      have h1 : 1 ≤ grow n := by
        match n with
        | 0 => exact Nat.le_refl _
        | 1 => decide
        | n + 2 => simp only [grow]; omega
      exact ws_nputF (n := n) (ts := ts) rfl rfl ((ef_lst (ea_cons ev_int ea_nil) (by show 1 ≤ sizeLine; decide)).cast (by rw [e, mcount_nil]; rfl)) (by omega) ⟨N + 1, by omega, rfl, rfl⟩
    · rw [Bool.or_eq_false_iff, decide_eq_false_iff_not, decide_eq_false_iff_not] at hb
      obtain ⟨n', rfl⟩ : ∃ n', n = n' + 2 := by
        cases ts with
        | nil => exact absurd rfl hb.2
        | cons t r =>
          have := ho t (by simp)
          exact ⟨n - 2, by omega⟩
      have hg : grow (n' + 2) = 1 + grow (n' + 1) + 36 * grow n' := rfl
      have ov : Ord (n' + 1) (wt ts (n' + 1)) := ord_wt (n := n' + 2) ho
      have cast1 : ((n' + 2 : Nat) : Int) - 1 = ((n' + 1 : Nat) : Int) := by omega
      have cast2 : ((n' + 2 : Nat) : Int) - 2 = ((n' : Nat) : Int) := by omega
      have tie2 : ∀ t : Tie, SeqAt.shaped (.list [.int (t.1 : Nat), .int (t.2 : Nat)]) = true := fun t => (shp_lst (n := 0) fun d hd => by
        rcases List.mem_cons.mp hd with rfl | hd
        · exact shp_int
        · rw [List.mem_singleton.mp hd]; exact shp_int).sh
      refine ws_s (ws_cnt1 (n := n' + 1) (us := wt ts (n' + 1)) (i := ((n' + 1 : Nat) : Int)) rfl rfl ((ev_sub ev_v ev_int).cast (by rw [cast1])) ((ev_sub ev_v ev_int).cast (by rw [cast1])) (ev_tupleL (ef_lc (xs := ts) (enc := tD) (ei_tup ev_v) (fun e => !inc (n' + 1) e) tD (by omega) fun t ht => ⟨_, bd_name, by simp, eb_test ((ev_inT (ds := [.int (t.1 : Nat), .int (t.2 : Nat)]) ((ev_sub ev_v ev_int).cast (e := nD (n' + 1)) (by rw [cast1])) ev_v (shp_int (n := 0)).sh (tie2 t)).cast ?_), fun _ => ⟨ev_v, lf_tD⟩⟩).dd) (by omega) ov (Nat.le_trans (List.length_filter_le _ _) hl) (by omega) rfl) ?_
      · rw [if_pos rfl, any_tD]; rfl
      refine ws_seq (M := fun e => ∃ N', N' ≤ N + grow (n' + 1) + 36 * grow n' ∧ e = [.im (nD (n' + 2)), .im (.tuple (ts.map tD)), .cu (memoC K w a N' F yes), .im (wD (n' + 2) ts), .im (nD (n' + 1)), .ow (iD (mcount ts)), .no, .no, .no, .no, .no, .no, .no, .no, .no, .no, .no]) ?_ ?_
      · refine ws_for (ds := (ups (n' + 1) ts).map nD) (I := fun i e => e = [.im (nD (n' + 2)), .im (.tuple (ts.map tD)), .cu (memoC K w a (N + grow (n' + 1) + i * grow n') F yes), .im (wD (n' + 2) ts), .im (nD (n' + 1)), .ow (iD (cntA (n' + 1) ts i)), .no, .no, .no, .no, .no, .no, .no, .no, .no, .no, .no])
          (ez_list (ez_f ((ef_lc (xs := ts) (enc := tD) (ei_tup ev_v) (fun e => e.2 == n' + 1) (fun e => nD e.1) (by omega) fun t ht => ⟨_, bd_tup (bds_cons bd_name (bds_cons bd_name bds_nil)), by simp, eb_test ((ev_eq (d := nD t.2) (e := nD (n' + 1)) ev_v ev_v (shp_int (n := 0)).sh (shp_int (n := 0)).sh).cast (by rw [eqv_nD]; rfl)), fun _ => ⟨ev_v, lf_nD⟩⟩).cast (by unfold ups; rw [List.map_map]; rfl)) (lfs_map fun _ => lf_nD))) ⟨_, Fg.refl _, by rw [Nat.zero_mul, Nat.add_zero]; rfl⟩ ?_ ?_
        · rintro i d e hd rfl
          obtain ⟨u, hu, rfl⟩ := map_at hd
          obtain ⟨hi, hui⟩ := List.getElem?_eq_some_iff.mp hu
          have hgd : (ups (n' + 1) ts).getD i 0 = u := by rw [List.getD_eq_getElem?_getD, hu]; rfl
          have hul := ups_lt (n := n' + 2) ho (List.mem_of_getElem? hu)
          have hil : i < 36 := by have := ups_len (n' + 1) ts; omega
          have hbud : N + grow (n' + 1) + i * grow n' + grow n' ≤ 16000000 := by
            have : (i + 1) * grow n' ≤ 36 * grow n' := Nat.mul_le_mul_right _ (by omega)
            have e2 : (i + 1) * grow n' = i * grow n' + grow n' := Nat.succ_mul _ _
            omega
          have orr : Ord n' (restOf (n' + 1) u ts) := rest_ord (n := n' + 2) ho hul
          have lrr : (restOf (n' + 1) u ts).length ≤ 36 := Nat.le_trans (rest_len _ _ _) hl
          have lmr := mcount_len36 _ lrr n' orr (by omega)
          refine ⟨_, bd_name, ?_⟩
          have cl := cntA_len (n' + 1) ts hl i
          have cm : (0 :: mcount (restOf (n' + 1) u ts)).length ≤ 40 := by
            have := mcount_lenT (restOf (n' + 1) u ts)
            simp only [List.length_cons]; omega
          refine ws_freeze (n := 5) rfl ?_
          refine ws_s (ws_asg (s := .im (.tuple ((restOf (n' + 1) u ts).map tD))) (es_lf ((ev_tupleL (ef_lc (xs := ts) (enc := tD) (ei_tup ev_v) (fun e => !inc u e && !inc (n' + 1) e) (fun e => tD (relab u e)) (by omega) fun t ht => ⟨_, bd_tup (bds_cons bd_name (bds_cons bd_name bds_nil)), by simp,
            eb_and (eb_test ((ev_inT (d := nD u) (ds := [nD t.1, nD t.2]) ev_v (ev_tup (ea_cons ev_v (ea_cons ev_v ea_nil))) (shp_int (n := 0)).sh (tie2 t)).cast ?_)) (fun _ => eb_test ((ev_inT (d := nD (n' + 1)) (ds := [nD t.1, nD t.2]) ev_v (ev_tup (ea_cons ev_v (ea_cons ev_v ea_nil))) (shp_int (n := 0)).sh (tie2 t)).cast ?_)),
            fun hq => ⟨ev_tup (ds := [nD (sh u t.1), nD (sh u t.2)]) (ea_cons ((ev_sub (i := (t.1 : Nat)) ev_v (ev_intB (ev_gt (i := (t.1 : Nat)) (j := (u : Nat)) ev_v ev_v))).cast ?_) (ea_cons ((ev_sub (i := (t.2 : Nat)) ev_v (ev_intB (ev_gt (i := (t.2 : Nat)) (j := (u : Nat)) ev_v ev_v))).cast ?_) ea_nil)), lf_tD⟩⟩).dd).cast ?_) (lf_ties _)) rfl) ?_
          · rw [if_pos rfl, any_tD]; rfl
          · rw [if_pos rfl, any_tD]; rfl
          · rw [sh_int]
          · rw [sh_int]
          · unfold restOf; rw [List.map_map]; rfl
          refine ws_s (ws_cnt2 (n := n') (us := restOf (n' + 1) u ts) rfl rfl ((ev_sub ev_v ev_int).cast (by rw [cast2])) ev_v (by omega) orr lrr hbud lmr rfl) ?_
          refine ws_s (ws_asg (s := .im (.int ((max (cntA (n' + 1) ts i).length (0 :: mcount (restOf (n' + 1) u ts)).length : Nat) : Int))) (es_lf ((ev_max2 (ev_lenL ev_v) (ev_lenL ev_v)).cast ?_) lf_int) rfl) ?_
          · simp only [iD, List.length_map]
            congr 1
            omega
          have sz : ∀ m : Nat, m ≤ 100000 → m ≤ sizeLine := fun m h => Nat.le_trans h (by decide)
          refine ws_s (ws_par (s1 := .ow (iD (pad (cntA (n' + 1) ts i) (max (cntA (n' + 1) ts i).length (0 :: mcount (restOf (n' + 1) u ts)).length)))) (s2 := .ow (iD (pad (0 :: mcount (restOf (n' + 1) u ts)) (max (cntA (n' + 1) ts i).length (0 :: mcount (restOf (n' + 1) u ts)).length))))
            (es_f ((ef_cat (ds := iD (cntA (n' + 1) ts i)) ev_v (ef_rep1 (d := .int 0) (ef_lst (ea_cons ev_int ea_nil)).dd (ev_sub ev_v (ev_lenL (ds := iD (cntA (n' + 1) ts i)) ev_v)) (by simp; omega) (by simp; omega)).dd ?_).cast ?_) (lfs_ints _))
            (es_f ((ef_cat (ds := iD (0 :: mcount (restOf (n' + 1) u ts))) ev_v (ef_rep1 (d := .int 0) (ef_lst (ea_cons ev_int ea_nil)).dd (ev_sub ev_v (ev_lenL (ds := iD (0 :: mcount (restOf (n' + 1) u ts))) ev_v)) (by simp; omega) (by simp; omega)).dd ?_).cast ?_) (lfs_ints _)) (by decide) rfl) ?_
          · refine sz _ ?_; simp only [List.length_map, List.length_replicate]; omega
          · rw [← iD_pad]
            congr 2
            simp only [List.length_map]; omega
          · refine sz _ ?_; simp only [List.length_map, List.length_replicate]; omega
          · rw [← iD_pad]
            congr 2
            simp only [List.length_map]; omega
          refine ws_asg (s := .ow (iD (cntA (n' + 1) ts (i + 1)))) (es_f ((ef_lcM (xs := (pad (cntA (n' + 1) ts i) (max (cntA (n' + 1) ts i).length (0 :: mcount (restOf (n' + 1) u ts)).length)).zip (pad (0 :: mcount (restOf (n' + 1) u ts)) (max (cntA (n' + 1) ts i).length (0 :: mcount (restOf (n' + 1) u ts)).length))) (enc := fun p => .tuple [.int p.1, .int p.2]) (by rw [← zipD_map]; exact ei_zipL ev_v ev_v) (fun p => .int (p.1 + p.2)) ?_ fun p hp => ⟨_, bd_tup (bds_cons bd_name (bds_cons bd_name bds_nil)), by simp, ev_add ev_v ev_v, lf_int⟩).cast ?_) (lfs_ints _)) ?_
          · rw [List.length_zip, pad_len _ _ (by omega)]
            omega
          · simp only [cntA, hgd, pAdd, iD, List.map_map, Function.comp_def, Int.one_mul]
          · refine ⟨_, .same (.same (.same (.same (.same (.same (.drop (.drop (.drop (.drop (.drop (.drop (.same (.same (.same (.same (.same .nil)))))))))))))))), ?_⟩
            have e2 : (i + 1) * grow n' = i * grow n' + grow n' := Nat.succ_mul _ _
            rw [e2, ← Nat.add_assoc]
        · rintro e rfl
          rw [List.length_map]
          have hcl : cntA (n' + 1) ts (ups (n' + 1) ts).length = mcount ts := counts_last (n := n' + 2) ho
          refine ⟨_, ?_, by rw [hcl]⟩
          have := Nat.mul_le_mul_right (grow n') (Nat.le_trans (ups_len (n' + 1) ts) hl)
          omega
      · rintro e ⟨N', hN', rfl⟩
        exact ws_nputO (n := n' + 2) (ts := ts) (i := 5) rfl rfl rfl (by decide) (by decide) (by omega) ⟨_, by omega, rfl, rfl⟩
  · rintro e ⟨N', hN', e2, e3⟩
    refine ws_retN e2 e3 fun l σ H' r hm' hF hd => q l H' (offA_keep r.ex) (hm'.mono (fun _ _ h => h) rfl hN' fun _ g => g) hF hd
end
end K72
/-! K72W9: the law. -/
namespace K72
open PySem PySem.Spec L2 VL

section
variable {K : PySem.W.Frag} {w : World} {B B' Z Z' H H' : Hp} {fps : Nat → List Addr} {env : VL.Env} {σ : St} {n m : Nat} {ts us : List Tie} {tn tt te : TE} {E : En} {X : XK} {ds : List VL.D} {d : VL.D}
/-- xs.pop() -/
theorem ws_popD {i : Nat} (h : env[i]? = some (.ow (ds ++ [d]))) (k : E.nx (env.set i (.ow ds))) : WpS K B (tDrop (tBM0 K "list" rPop (tVar i))) env E := fun B' x σ H D r nx _ _ _ => by
  obtain ⟨Z, fps, r⟩ := r
  obtain ⟨p, xs, e1, e2, e3, e4⟩ := r.own h
  have hl := dqs_len e4
  have hlen : xs.length = ds.length + 1 := by rw [hl]; simp
  obtain ⟨v, hv, hd⟩ := dqs_get (i := ds.length) (d := d) e4 (by simp)
  have hdrop : Dqs K Z xs.dropLast ds := by
    have := dqs_take ds.length e4
    rw [List.take_left] at this
    rw [List.dropLast_eq_take, hlen]
    simpa using this
  exact ⟨_, e1, .inl ⟨rfl, _, .inl (.inl e3)⟩, p, xs, v, rfl, rfl, e3, by rw [hlen]; simpa using hv, nx _ _ _ k (r.setOwn h e2 e1 hdrop)⟩
/-- source = _law_open_cells(script) -/
theorem ws_open {a : Addr} {ns : List Int} (hB : SqL K B a (ns.map V.int)) (hl : ns.length ≤ 10000000) (h0 : env[0]? = some (.cu (ptrC a))) (k : ∀ d c, E.nx (env.set 1 (.cu (srcC d c)))) : WpS K B (tAsg (tCall (spOpen K) [] X (tCons (tVar 0) tNil)) (gName 1)) env E := fun B' x σ H D r nx _ _ _ => by
  obtain ⟨Z, fps, r⟩ := r
  refine ⟨_, r.rp.ptr h0, a, ns, rfl, Evl.ex_l (x.trans (r.bz.trans r.zh)) hB, hl, fun d c H' hd hc ex hs => nx _ _ _ (k d c) ?_⟩
  refine (r.mono (r.grow ex)).putS (i := 1) (s := .cu (srcC d c)) (fp := [d, c]) ⟨_, rfl, rfl, rfl, hs⟩ (fun b hb => ?_) fun j b hb hj => ?_
  · rcases List.mem_cons.mp hb with rfl | hb
    · exact r.zn hd
    · rw [List.mem_singleton.mp hb]; exact r.zn hc
  · obtain ⟨o, eo, _⟩ := r.mu j b hj
    rcases List.mem_cons.mp hb with rfl | hb
    · rw [hd] at eo; cases eo
    · rw [List.mem_singleton.mp hb, hc] at eo; cases eo
/-- _law_counts(n, ties, {}) -/
theorem ef_cnt (hn : EvD K tn env (.int (n : Nat))) (ht : EvD K tt env (.tuple (us.map tD))) (h1 : n < 10) (ho : Ord n us) (hl : us.length ≤ 36) : EvF K (tCall (spCnt K w 10) [] X (tCons tn (tCons tt (tCons (tNNew w) tNil)))) env (iD (mcount us)) := fun σ H r Q q =>
  hn σ H r _ fun x H1 x1 d1 => ht σ H1 (r.mono x1) _ fun y H2 x2 d2 => fun p hp => by
    have hg : grow n ≤ 16000000 := by
      have : ∀ n, n < 10 → grow n ≤ 16000000 := by decide +kernel
      exact this n h1
    have ez := Evl.Ex.new (o := dnO w p []) hp
    refine ⟨p, n, us, y, 0, fun l => H l = none, by rw [dq_int d1]; rfl, h1, ho, hl, dq_mono d2 ez, ⟨[], upd_same, Nat.le_refl _, trivial, fun x hx => nomatch hx⟩, by omega, fun l h => Evl.fresh_back x1 (Evl.fresh_back x2 (Evl.fresh_back ez h)), fun l H' keep _ hF hd => ?_⟩
    obtain ⟨l', xs, e, hs, hx⟩ := dq_list hd
    cases e
    refine q l xs H' hF (fun b o e => ?_) hs hx
    have e2 := x2 _ _ (x1 _ _ e)
    have hb : b ≠ p := ne_of_none e2 hp
    exact keep b o hb (by rw [upd_ne hb]; exact e2)
end
/-! ### all pairs -/
def rowP (n a : Nat) : List Tie := (List.range (n - (a + 1))).map fun j => (a, a + 1 + j)
def everyA (n : Nat) : Nat → List Tie
  | 0 => []
  | i + 1 => everyA n i ++ rowP n i
theorem every_pairs (n : Nat) : everyA n n = pairs (List.range n) := by
  have key : ∀ i, i ≤ n → everyA n i ++ pairs (List.range' i (n - i)) = pairs (List.range n) := by
    intro i
    induction i with
    | zero => intro _; rw [List.range_eq_range']; rfl
    | succ i ih =>
      intro h
      rw [← ih (by omega)]
      have e : n - i = (n - (i + 1)) + 1 := by omega
      rw [e, List.range'_succ]
      simp only [everyA, pairs, List.append_assoc]
      congr 2
      unfold rowP
      rw [List.range'_eq_map_range, List.map_map]
      rfl
  have := key n (Nat.le_refl _)
  rw [Nat.sub_self] at this
  simpa [pairs] using this
theorem everyA_len (n : Nat) (h : n < 10) : ∀ i, (everyA n i).length ≤ 10 * i
  | 0 => by simp [everyA]
  | i + 1 => by
    have := everyA_len n h i
    simp only [everyA, rowP, List.length_append, List.length_map, List.length_range]
    omega
theorem any_tDs (ts : List Tie) (t : Tie) : ((ts.map tD).any fun z => PyData.eqv z (tD t)) = decide (t ∈ ts) := (any_map (fun a b => eqv_tD a b) ts t).trans (decide_eq_decide.mpr Iff.rfl)
theorem shp_ties (ts : List Tie) : SeqAt.shaped (.list (ts.map tD)) = true := (shp_lst (n := 1) (shp_map fun _ => shp_tD)).sh
theorem shp_iD (l : List Int) : SeqAt.shaped (.list (iD l)) = true := (shp_lst (n := 0) (shp_map fun _ => shp_int)).sh
theorem shp_iDt (l : List Int) : SeqAt.shaped (.tuple (iD l)) = true := (shp_tup (n := 0) (shp_map fun _ => shp_int)).sh
theorem iD_app (a b : List Int) : iD (a ++ b) = iD a ++ iD b := by simp [iD]
theorem iD_last (l : List Int) (c : Int) : iD (l ++ [c]) = iD l ++ [.int c] := by simp [iD]
/-- the noughts behind are taken away: the loop, the list in slot 9 -/
theorem ws_trim {K : PySem.W.Frag} {B : Hp} {E : En} {l0 : List Int} {ts : List Tie} {f : Sl → VL.Env} (hf9 : ∀ s, (f s)[9]? = some s) (hset : ∀ s s', (f s).set 9 s' = f s') (h0 : ∀ x, ev x l0 = M x ts) (hne : l0 ≠ []) (k : E.nx (f (.ow (iD (mcount ts))))) :
    WpS K B (tWhile (tAnd (tTest (tOp (rI0 fun i j => .bl (decide (j < i))) (tCB (rLenQ K) (tCons (tVar 9) tNil)) (tC (.int 1)))) (tTest (tOp (rEqD K) (tOp (rIx K) (tVar 9) (tUn (rU fun i => .int (-i)) (tC (.int 1)))) (tC (.int 0))))) (tDrop (tBM0 K "list" rPop (tVar 9)))) (f (.ow (iD l0))) E := by
  refine ws_whileM (I := fun m e => ∃ l, l.length = m ∧ e = f (.ow (iD l)) ∧ l ≠ [] ∧ ∀ x, ev x l = M x ts) ⟨_, l0, rfl, rfl, hne, h0⟩ ?_
  rintro m e ⟨l, rfl, rfl, hne, he⟩
  obtain ⟨l', c, rfl⟩ : ∃ l' c, l = l' ++ [c] := by
    rcases List.eq_nil_or_concat l with h' | ⟨L', x, h'⟩
    · exact absurd h' hne
    · exact ⟨L', x, by simpa using h'⟩
  have v9 : EvD K (tVar 9) (f (.ow (iD (l' ++ [c])))) (.list (iD (l' ++ [c]))) := ev_var (hf9 _) rfl
  refine ⟨decide (1 < ((l' ++ [c]).length : Int)) && decide (c = 0), eb_and (eb_test ((ev_gt (ev_lenL v9) ev_int).cast (by simp [iD]))) (fun _ => eb_test ((ev_eq (ev_ixL v9 (ev_neg ev_int) (by rw [iD_last]; exact atI_last _ _)) ev_int (shp_int (n := 0)).sh (shp_int (n := 0)).sh).cast (by rw [eqv_intD]))), fun hb => ?_, fun hb => ?_⟩
  · rw [Bool.and_eq_true, decide_eq_true_eq, decide_eq_true_eq] at hb
    obtain ⟨h1, h2⟩ := hb
    refine ws_popD (i := 9) (ds := iD l') (d := .int c) (by rw [hf9, iD_last]) ⟨_, l'.length, Fg.refl _, ⟨l', rfl, hset _ _, ?_, fun x => ?_⟩, by simp⟩
    · intro e; rw [e] at h1; simp at h1
    · rw [← trim_step (l := l') (x := x) h2]; exact he x
  · have e := trim_end he hne (fun ⟨a, b⟩ => by
      rw [Bool.and_eq_false_iff, decide_eq_false_iff_not, decide_eq_false_iff_not] at hb
      rcases hb with h | h
      · exact h (by exact_mod_cast a)
      · refine h ?_
        have : (l' ++ [c]).getD ((l' ++ [c]).length - 1) 0 = c := by simp [List.getD_eq_getElem?_getD]
        rw [this] at b
        exact b)
    rw [e]
    exact k

abbrev eL (d c : Addr) (s2 n web every s6 rest counts due : Sl) : VL.Env := [.no, .cu (srcC d c), s2, n, web, every, s6, rest, counts, due, .no, .no, .no, .no, .no, .no, .no, .no, .no, .no, .no, .no, .no]
theorem w_law {K : PySem.W.Frag} {w : World} {H : Hp} {a : Addr} {ns : List Int} {Q : VK} (hs : SqL K H a (ns.map V.int)) (hl : ns.length ≤ 63) (q : ∀ v H', v = .bl true → Q v H') :
    WpS K H (rd_law K w (spOpen K) spPick (spSrc K SgWeb) (spCnt K w 10) (spD K SgPair) (spD K SgMost) (spD K SgFull) (spD K SgPoly) (spD K SgBeside) (spF K SgTimes))
      [.cu (ptrC a), .no, .no, .no, .no, .no, .no, .no, .no, .no, .no, .no, .no, .no, .no, .no, .no, .no, .no, .no, .no, .no, .no] { nx := fun _ => False, rt := Q } := by
  unfold rd_law
  refine ws_seq (M := fun e => ∃ d c, e = [.cu (ptrC a), .cu (srcC d c), .no, .no, .no, .no, .no, .no, .no, .no, .no, .no, .no, .no, .no, .no, .no, .no, .no, .no, .no, .no, .no]) (ws_open hs (by omega) rfl fun d c => ⟨d, c, rfl⟩) ?_
  rintro e ⟨d, c, rfl⟩
  refine ws_s (e := eL d c .no .no .no .no .no .no .no .no) ?_ (ws_ret ev_bl fun v σ H' r hd => q v H' (dq_bool hd))
  refine ws_for (ds := (List.range 3).map nD) (I := fun _ e => e = eL d c .no .no .no .no .no .no .no .no) (by rw [← rangeD_nat]; exact ez_rng1 ev_int (by omega) (by omega)) ⟨_, .drop (.same (.same (.same (.same (.same (.same (.same (.same (.same (.same (.same (.same (.same (.same (.same (.same (.same (.same (.same (.same (.same (.same .nil)))))))))))))))))))))), rfl⟩ ?_ (fun e h => h)
  rintro lap dd e hd rfl
  refine ⟨_, bd_name, ?_⟩
  refine ws_seq (M := fun e => ∃ n : Nat, n < 10 ∧ e = eL d c (.im dd) (.im (nD n)) .no .no .no .no .no .no) (ws_asgX (ex_pick (n := 1) (da := d) (ca := c) (k := 10) rfl (ex_z (ez_lf ev_int lf_int) rfl)) fun z ⟨r, hz, h0, h1⟩ => ⟨r.toNat, by omega, by
    have : ((r.toNat : Nat) : Int) = r := by omega
    show _ = eL d c (.im dd) (.im (nD r.toNat)) .no .no .no .no .no .no
    rw [hz, show nD r.toNat = .int r by unfold nD; rw [this]]
    rfl⟩) ?_
  rintro e ⟨n, hn, rfl⟩
  refine ws_seq (M := fun e => ∃ ts : List Tie, WebOk n 36 ts ∧ e = eL d c (.im dd) (.im (nD n)) (.im (wD n ts)) .no .no .no .no .no) (ws_asgX (ex_src (n := 1) (da := d) (ca := c) rfl (exa_cons (P := fun z => z = nD n) (ex_z (ez_lf ev_v lf_nD) rfl) (exa_cons (P := fun z => ∃ m : Int, 0 ≤ m ∧ m ≤ 36 ∧ z = .int m) (ex_ixL (ds := [.int 4, .int 12, .int 36]) (ez_f (ef_lst (ea_cons ev_int (ea_cons ev_int (ea_cons ev_int ea_nil))) (by show 3 ≤ sizeLine; decide)) (by simp [lf, lfs])) (ex_pick (n := 1) (da := d) (ca := c) (k := 3) rfl (ex_z (ez_lf ev_int lf_int) rfl)) ?_) exa_nil)) ?_) ?_) ?_
  · rintro z ⟨r, rfl, h0, h1⟩
    have : r = 0 ∨ r = 1 ∨ r = 2 := by omega
    rcases this with rfl | rfl | rfl
    · exact ⟨0, .int 4, rfl, rfl, 4, by decide, by decide, rfl⟩
    · exact ⟨1, .int 12, rfl, rfl, 12, by decide, by decide, rfl⟩
    · exact ⟨2, .int 36, rfl, rfl, 36, by decide, by decide, rfl⟩
  · rintro ds ⟨_, _, rfl, rfl, _, _, rfl, ⟨m, h0, h1, rfl⟩, rfl⟩
    refine ⟨by simp [lfs, lf], wD n [], n, m, by omega, h0, by omega, rfl, [], ⟨by simp, List.nodup_nil, by simpa using h0⟩, rfl⟩
  · rintro z ⟨ds, ⟨_, _, rfl, rfl, _, _, rfl, ⟨m, h0, h1, rfl⟩, rfl⟩, n', m', hn', h0', h1', he, ts, hts, rfl⟩
    obtain ⟨e1, e2⟩ := List.cons.inj he
    have e3 : n = n' := by have := PyData.int.inj e1; omega
    subst e3
    have e4 : m = m' := PyData.int.inj (List.cons.inj e2).1
    subst e4
    exact ⟨ts, ⟨hts.ord, hts.nd, by have := hts.le; omega⟩, rfl⟩
  rintro e ⟨ts, hts, rfl⟩
  have ho : Ord n ts := hts.ord
  have hw := ho.within
  have ht36 : ts.length ≤ 36 := by have := hts.le; omega
  -- every
  refine ws_s (ws_asg (s := .ow ((everyA n 0).map tD)) (es_f (ef_lst ea_nil (by show 0 ≤ sizeLine; decide)) rfl) rfl) ?_
  refine ws_s (ws_forE (ds := (List.range n).map nD) (ev := fun i => eL d c (.im dd) (.im (nD n)) (.im (wD n ts)) (.ow ((everyA n i).map tD)) .no .no .no .no) (by rw [← rangeD_nat]; exact ez_rng1 ev_v (by omega) (by omega)) (Fg.refl _) (fun i z hd => ?_) rfl) ?_
  · obtain ⟨r, hr', rfl⟩ := map_at hd
    have hin : i < n := by simpa using (List.getElem?_eq_some_iff.mp hr').1
    rw [List.getElem?_range hin] at hr'
    obtain rfl := Option.some.inj hr'
    have hel := everyA_len n hn i
    refine ⟨_, bd_name, ?_⟩
    refine ws_asg (s := .ow ((everyA n (i + 1)).map tD)) (es_f ((ef_cat ev_v (ef_lcM (xs := List.range (n - (i + 1))) (enc := fun j => nD (i + 1 + j)) ?_ (fun j => tD (i, i + 1 + j)) (by simp; omega) fun j hj => ⟨_, bd_name, by simp, ev_tup (ds := [nD i, nD (i + 1 + j)]) (ea_cons ev_v (ea_cons ev_v ea_nil)), lf_tD⟩).dd ?_).cast ?_) (lfs_map fun _ => lf_tD)) ?_
    · have e : rangeD ((i : Nat) + 1 : Int) (n : Nat) = (List.range (n - (i + 1))).map fun j => nD (i + 1 + j) := by
        unfold rangeD
        have : ((n : Int) - ((i : Nat) + 1 : Int)).toNat = n - (i + 1) := by omega
        rw [this]
        apply List.map_congr_left
        intro j _
        simp [nD]
      rw [← e]
      exact ei_rng2 (ev_add ev_v ev_int) ev_v ⟨by omega, by omega, by omega, by omega⟩
    · show _ ≤ 2 ^ 24
      simp only [List.length_map, List.length_range]; omega
    · simp only [everyA, rowP, List.map_append, List.map_map]; rfl
    · exact .same (.same (.same (.same (.same (.same (.drop (.same (.same (.same (.same (.same (.same (.same (.same (.same (.same (.same (.same (.same (.same (.same (.same .nil))))))))))))))))))))))
  simp only [List.length_map, List.length_range]
  rw [every_pairs]
  -- rest
  have hcl := comp_len (n := n) ts hn
  have hco := comp_ord n ts
  refine ws_s (ws_asg (s := .im (wD n (comp (List.range n) ts))) (es_lf (ev_tup (ds := [nD n, .tuple ((comp (List.range n) ts).map tD)]) (ea_cons ev_v (ea_cons (ev_tupleL (ef_lc (xs := pairs (List.range n)) (enc := tD) (ei_list ev_v) (fun e => !decide (e ∈ ts)) tD ?_ fun t ht => ⟨_, bd_name, by simp, eb_test ((ev_inT (d := tD t) (ds := ts.map tD) ev_v (ev_ixT ev_v ev_int rfl) (shp_tD (n := 0)).sh (shp_ties ts)).cast (by rw [if_pos rfl, any_tDs])), fun _ => ⟨ev_v, lf_tD⟩⟩).dd) ea_nil))) (lf_wD _ _)) rfl) ?_
  · have h2 := pairs_len (List.range n)
    rw [List.length_range] at h2
    have h3 : n * n ≤ 9 * n := Nat.mul_le_mul_right n (by omega)
    omega
  -- counts
  refine ws_s (ws_asg (s := .ow (iD (mcount ts))) (es_f (ef_cnt ev_v (ev_ixT (d := .tuple (ts.map tD)) ev_v ev_int rfl) hn ho ht36) (lfs_ints _)) rfl) ?_
  refine ws_freeze (n := 8) rfl ?_
  refine ws_s (e := eL d c (.im dd) (.im (nD n)) (.im (wD n ts)) (.ow ((pairs (List.range n)).map tD)) .no (.im (wD n (comp (List.range n) ts))) (.im (.list (iD (mcount ts)))) .no) (ws_if (b := false || false) (eb_or (eb_test ((ev_ne (ef_listT (ev_call (ea_cons ev_v ea_nil) ⟨n, ts, by omega, hw, by omega, rfl, rfl⟩)).dd ev_v (shp_iD _) (shp_iD _)).cast (by rw [eqv_iD]; simp))) fun _ => eb_test ((ev_ne (ev_call (ea_cons ev_v ea_nil) ⟨n, ts, by omega, hw, by omega, rfl, rfl⟩) (ev_sub (ev_lenL ev_v) ev_int) (shp_int (n := 0)).sh (shp_int (n := 0)).sh).cast (by rw [eqv_intD]; simp [iD]))) (fun h => by cases h) (fun _ => ws_next rfl)) ?_
  have hml : ∀ i, i < (mcount ts).length → 2 * i ≤ n := fun i h => mcount_half hw h
  have hbd := mcount_bd ts (by omega)
  -- due
  refine ws_s (ws_asg (s := .ow (iD ((List.range 0).map (dueS (mcount ts) n)))) (es_f (ef_lst ea_nil (by show 0 ≤ sizeLine; decide)) rfl) rfl) ?_
  refine ws_s (ws_forE (ds := (List.range (n / 2 + 1)).map nD) (ev := fun k => eL d c (.im dd) (.im (nD n)) (.im (wD n ts)) (.ow ((pairs (List.range n)).map tD)) .no (.im (wD n (comp (List.range n) ts))) (.im (.list (iD (mcount ts)))) (.ow (iD ((List.range k).map (dueS (mcount ts) n))))) ?_ (Fg.refl _) (fun k z hd => ?_) rfl) ?_
  · rw [← rangeD_nat]
    exact ez_rng1 ((ev_add (ev_fdiv ev_v ev_int ⟨by decide, by decide⟩) ev_int).cast (by congr 1)) (by omega) (by omega)
  · obtain ⟨r, hr', rfl⟩ := map_at hd
    have hk : k < n / 2 + 1 := by simpa using (List.getElem?_eq_some_iff.mp hr').1
    rw [List.getElem?_range hk] at hr'
    obtain rfl := Option.some.inj hr'
    refine ⟨_, bd_name, ?_⟩
    refine ws_s (ws_asg (s := .im (.int (totS (mcount ts) n k 0))) (es_lf ev_int lf_int) rfl) ?_
    refine ws_s (e := (eL d c (.im dd) (.im (nD n)) (.im (wD n ts)) (.ow ((pairs (List.range n)).map tD)) .no (.im (wD n (comp (List.range n) ts))) (.im (.list (iD (mcount ts)))) (.ow (iD ((List.range k).map (dueS (mcount ts) n))))).set 10 (.im (nD k)) |>.set 11 (.im (.int (dueS (mcount ts) n k)))) ?_ ?_
    · refine ws_forE (ds := (List.range (min (k + 1) (mcount ts).length)).map nD) (ev := fun i => ((eL d c (.im dd) (.im (nD n)) (.im (wD n ts)) (.ow ((pairs (List.range n)).map tD)) .no (.im (wD n (comp (List.range n) ts))) (.im (.list (iD (mcount ts)))) (.ow (iD ((List.range k).map (dueS (mcount ts) n))))).set 10 (.im (nD k))).set 11 (.im (.int (totS (mcount ts) n k i)))) ?_ (Fg.refl _) (fun i z hd => ?_) ?_
      · rw [← rangeD_nat]
        refine ez_rng1 ((ev_min2 (ev_add ev_v ev_int) (ev_lenL ev_v)).cast ?_) (by omega) (by omega)
        simp only [iD, List.length_map]
        congr 1
        omega
      · obtain ⟨r, hr', rfl⟩ := map_at hd
        have hi : i < min (k + 1) (mcount ts).length := by simpa using (List.getElem?_eq_some_iff.mp hr').1
        rw [List.getElem?_range hi] at hr'
        obtain rfl := Option.some.inj hr'
        have hi1 : i < (mcount ts).length := by omega
        have h2 := hml i hi1
        have hb := hbd _ (List.getElem_mem hi1)
        have hg : (mcount ts).getD i 0 = (mcount ts)[i] := by rw [List.getD_eq_getElem?_getD, List.getElem?_eq_getElem hi1]; rfl
        have hf : (ful (n - 2 * i) (k - i)).natAbs < 2 ^ 64 := by
          have : ∀ n, n < 10 → ∀ k, k < 6 → (ful n k).natAbs < 2 ^ 64 := by decide +kernel
          exact this _ (by omega) _ (by omega)
        refine ⟨_, bd_name, ?_⟩
        refine ws_asg (s := .im (.int (totS (mcount ts) n k (i + 1)))) (es_lf ((ev_add ev_v (ev_mul (ev_mul (ev_iteI (b := decide (i % 2 = 0)) (eb_test ((ev_eq (ev_mod (ev_intI ev_v) ev_int (by decide)) ev_int (shp_int (n := 0)).sh (shp_int (n := 0)).sh).cast ?_)) ev_int (ev_sub ev_int ev_int)) (ev_ixLn (d := .int (mcount ts)[i]) ev_v ev_v (by simp [iD, List.getElem?_map, List.getElem?_eq_getElem hi1])) ?_) (ev_call (ea_cons ((ev_sub ev_v (ev_mul ev_int ev_v ?_)).cast (e := nD (n - 2 * i)) ?_) (ea_cons ((ev_sub ev_v ev_v).cast (e := nD (k - i)) ?_) ea_nil)) ⟨n - 2 * i, k - i, by omega, by omega, rfl, rfl⟩) ?_)).cast ?_) lf_int) ?_
        · rw [eqv_intD]; congr 1
          apply decide_eq_decide.mpr
          omega
        · refine wide_mul (a := 64) (b := 64) ?_ hb.2 (by decide) (by decide) (by decide)
          by_cases h : i % 2 = 0 <;> simp [h]
        · refine wide_mul (a := 64) (b := 64) (by decide) ?_ (by decide) (by decide) (by decide)
          omega
        · show PyData.int _ = PyData.int _
          congr 1; omega
        · show PyData.int _ = PyData.int _
          congr 1; omega
        · refine wide_mul (a := 128) (b := 64) ?_ hf (by decide) (by decide) (by decide)
          rw [Int.natAbs_mul]
          have h1 : (if decide (i % 2 = 0) = true then (1 : Int) else 0 - 1).natAbs ≤ 1 := by
            by_cases h : i % 2 = 0 <;> simp [h]
          exact Nat.lt_of_le_of_lt (Nat.mul_le_mul h1 (Nat.le_of_lt hb.2)) (by decide)
        · rw [totS_succ]
          unfold dueT
          rw [hg]
          by_cases h : i % 2 = 0 <;> simp [h]
        · exact .same (.same (.same (.same (.same (.same (.same (.same (.same (.same (.same (.same (.drop (.same (.same (.same (.same (.same (.same (.same (.same (.same (.same .nil))))))))))))))))))))))
      · simp only [List.length_map, List.length_range]
        rw [totS_due]
    · refine ws_append (n := 9) (d := .int (dueS (mcount ts) n k)) rfl ev_v lf_int (by simp only [iD, List.length_map, List.length_range]; omega) ?_
      have e : iD ((List.range k).map (dueS (mcount ts) n)) ++ [.int (dueS (mcount ts) n k)] = iD ((List.range (k + 1)).map (dueS (mcount ts) n)) := by
        rw [List.range_succ]; simp [iD]
      rw [e]
      exact .same (.same (.same (.same (.same (.same (.same (.same (.same (.same (.drop (.drop (.same (.same (.same (.same (.same (.same (.same (.same (.same (.same (.same (.nil)))))))))))))))))))))))
  simp only [List.length_map, List.length_range]
  -- the noughts behind
  refine ws_s (e := eL d c (.im dd) (.im (nD n)) (.im (wD n ts)) (.ow ((pairs (List.range n)).map tD)) .no (.im (wD n (comp (List.range n) ts))) (.im (.list (iD (mcount ts)))) (.ow (iD (mcount (comp (List.range n) ts))))) (ws_trim (l0 := dueL (mcount ts) n) (ts := comp (List.range n) ts) (f := fun s => eL d c (.im dd) (.im (nD n)) (.im (wD n ts)) (.ow ((pairs (List.range n)).map tD)) .no (.im (wD n (comp (List.range n) ts))) (.im (.list (iD (mcount ts)))) s) (fun _ => rfl) (fun _ _ => rfl) (due_rest hn ho hts.nd) (by simp [dueL]) rfl) ?_
  refine ws_s (e := eL d c (.im dd) (.im (nD n)) (.im (wD n ts)) (.ow ((pairs (List.range n)).map tD)) .no (.im (wD n (comp (List.range n) ts))) (.im (.list (iD (mcount ts)))) (.ow (iD (mcount (comp (List.range n) ts))))) (ws_if (b := false) (eb_test ((ev_ne (ef_listT (ev_call (ea_cons ev_v ea_nil) ⟨n, comp (List.range n) ts, by omega, hco.within, by omega, rfl, rfl⟩)).dd ev_v (shp_iD _) (shp_iD _)).cast (by rw [eqv_iD]; simp))) (fun h => by cases h) (fun _ => ws_next rfl)) ?_
  refine WpS.fg (env' := eL d c (.im dd) (.im (nD n)) (.im (wD n ts)) .no .no .no (.im (.list (iD (mcount ts)))) .no) ?_ (.same (.same (.same (.same (.same (.drop (.same (.drop (.same (.drop (.same (.same (.same (.same (.same (.same (.same (.same (.same (.same (.same (.same (.same (.nil))))))))))))))))))))))))
  -- the polynomial
  refine ws_s (ws_asg (s := .ow (iD (rowN n (mcount ts) 0))) (es_f ((ef_rep1 (d := .int 0) (ef_lst (ea_cons ev_int ea_nil)).dd ((ev_add (i := (n : Nat)) ev_v ev_int).cast (e := .int ((n + 1 : Nat) : Int)) (by simp)) (by omega) (by omega)).cast ?_) (lfs_ints _)) rfl) ?_
  · simp only [rowN, iD, List.map_replicate]
    congr 1
  refine ws_s (ws_forE (ev := fun i => (eL d c (.im dd) (.im (nD n)) (.im (wD n ts)) .no .no .no (.im (.list (iD (mcount ts)))) .no).set 13 (.ow (iD (rowN n (mcount ts) i)))) (ez_enumL (ez_im rfl)) (Fg.refl _) (fun i z hd => ?_) rfl) ?_
  · obtain ⟨e, he, rfl⟩ := enum_at hd
    obtain ⟨cc, hc, rfl⟩ := map_at he
    obtain ⟨hi, hci⟩ := List.getElem?_eq_some_iff.mp hc
    have h2 := hml i hi
    refine ⟨_, bd_tup (bds_cons bd_name (bds_cons bd_name bds_nil)), ?_⟩
    refine ws_setitem (n := 13) (m := n - 2 * i) rfl ((ev_iteI (b := decide (i % 2 = 0)) (eb_test ((ev_eq (ev_mod (ev_intI ev_v) ev_int (by decide)) ev_int (shp_int (n := 0)).sh (shp_int (n := 0)).sh).cast ?_)) ev_v (ev_sub ev_int ev_v)).cast (e := .int (cc * (1 - 2 * ((i % 2 : Nat) : Int)))) ?_) lf_int ((ev_sub (i := (n : Nat)) ev_v (ev_mul ev_int ev_v ?_)).cast (by congr 1; omega)) (by simp only [iD, List.length_map, rowN_len]; omega) ?_
    · rw [eqv_intD]; congr 1
      apply decide_eq_decide.mpr
      omega
    · congr 1
      by_cases h : i % 2 = 0
      · rw [if_pos (decide_eq_true h), h]; simp
      · have h' : i % 2 = 1 := by omega
        rw [if_neg (by simp [h]), h']; simp
    · refine wide_mul (a := 64) (b := 64) (by decide) ?_ (by decide) (by decide) (by decide)
      omega
    · have e : (iD (rowN n (mcount ts) i)).set (n - 2 * i) (.int (cc * (1 - 2 * ((i % 2 : Nat) : Int)))) = iD (rowN n (mcount ts) (i + 1)) := by
        have g : (mcount ts).getD i 0 = cc := by rw [List.getD_eq_getElem?_getD, hc]; rfl
        simp only [rowN, g, iD, List.map_set]
      rw [e]
      exact .same (.same (.same (.same (.same (.same (.same (.same (.same (.same (.drop (.same (.same (.same (.drop (.same (.same (.same (.same (.same (.same (.same (.same (.nil)))))))))))))))))))))))
  rw [enumD_len]
  simp only [List.length_map]
  refine ws_s (e := (eL d c (.im dd) (.im (nD n)) (.im (wD n ts)) .no .no .no (.im (.list (iD (mcount ts)))) .no).set 13 (.ow (iD (rowN n (mcount ts) (mcount ts).length)))) (ws_if (b := false) (eb_test ((ev_ne (ev_call (ea_cons ev_v ea_nil) ⟨n, ts, by omega, hw, by omega, rfl, rfl⟩) (ev_tupleL ev_v) (shp_iDt _) (shp_iDt _)).cast (by rw [eqv_iDt]; simp))) (fun h => by cases h) (fun _ => ws_next rfl)) ?_
  refine WpS.fg (env' := eL d c (.im dd) (.im (nD n)) (.im (wD n ts)) .no .no .no (.im (.list (iD (mcount ts)))) .no) ?_ (.same (.same (.same (.same (.same (.same (.same (.same (.same (.same (.same (.same (.same (.drop (.same (.same (.same (.same (.same (.same (.same (.same (.same (.nil))))))))))))))))))))))))
  -- the cone
  refine ws_seq (M := fun e => Fg e (eL d c (.im dd) (.im (nD n)) (.im (wD n ts)) .no .no .no (.im (.list (iD (mcount ts)))) .no)) ?_ ?_
  · refine ws_if (b := decide ((n : Int) < 9)) (eb_test (ev_lt ev_v ev_int)) (fun h9 => ?_) (fun _ => ws_next (Fg.refl _))
    have hn9 : n < 9 := by have := of_decide_eq_true h9; omega
    have hcc := cone_ord (n := n) ho
    have hclen : (coneT n ts).length ≤ 63 := by
      have := (srt_perm (ts ++ (List.range n).map fun a => (a, n))).length_eq
      unfold coneT
      rw [this]; simp; omega
    refine ws_s (ws_asg (s := .im (wD (n + 1) (coneT n ts))) (es_lf (ev_tup (ds := [nD (n + 1), .tuple ((coneT n ts).map tD)]) (ea_cons ((ev_add ev_v ev_int).cast (by simp [nD])) (ea_cons (ev_tupleL (ef_sorted ((ef_cat (ef_listT (ev_ixT (d := .tuple (ts.map tD)) ev_v ev_int rfl)).dd (ef_lcM (xs := List.range n) (enc := nD) (by rw [← rangeD_nat]; exact ei_rng1 ev_v (by omega) (by omega)) (fun a => tD (a, n)) (by simp; omega) fun a ha => ⟨_, bd_name, by simp, ev_tup (ds := [nD a, nD n]) (ea_cons ev_v (ea_cons ev_v ea_nil)), lf_tD⟩).dd ?_).dd.cast ?_)).dd) ea_nil))) (lf_wD _ _)) rfl) ?_
    · show _ ≤ 2 ^ 24
      simp; omega
    · simp [List.map_map, Function.comp_def]
    have hcl2 : (mcount ts).length ≤ 37 := by have := mcount_lenT ts; omega
    refine ws_s (ws_par (s1 := .ow (iD (mcount ts ++ [0]))) (s2 := .ow (iD (moreA (mcount ts) n 0))) (es_f ((ef_cat ev_v (ef_lst (ds := [.int 0]) (ea_cons ev_int ea_nil) (by show 1 ≤ sizeLine; decide)).dd ?_).cast ?_) (lfs_ints _)) (es_f (ef_lst (ea_cons ev_int ea_nil) (by show 1 ≤ sizeLine; decide)) (lfs_ints [0])) (by decide) rfl) ?_
    · show _ ≤ 2 ^ 24
      simp [iD]; omega
    · simp [iD]
    refine ws_s (ws_forE (ev := fun i => ((((eL d c (.im dd) (.im (nD n)) (.im (wD n ts)) .no .no .no (.im (.list (iD (mcount ts)))) .no).set 15 (.im (wD (n + 1) (coneT n ts)))).set 16 (.ow (iD (mcount ts ++ [0])))).set 17 (.ow (iD (moreA (mcount ts) n i))))) (ez_enumL (ez_im rfl)) (Fg.refl _) (fun i z hd => ?_) rfl) ?_
    · obtain ⟨e, he, rfl⟩ := enum_at hd
      obtain ⟨cc, hc, rfl⟩ := map_at he
      obtain ⟨hi, hci⟩ := List.getElem?_eq_some_iff.mp hc
      have h2 := hml i hi
      have hb := hbd cc (List.mem_of_getElem? hc)
      refine ⟨_, bd_tup (bds_cons bd_name (bds_cons bd_name bds_nil)), ?_⟩
      refine ws_append (n := 17) (d := .int (cc * ((n : Int) - 2 * (i : Int)))) rfl (ev_mul ev_v (ev_sub ev_v (ev_mul ev_int ev_v ?_)) ?_) lf_int (by simp only [iD, moreA, List.length_map, List.length_cons, List.length_range]; omega) ?_
      · refine wide_mul (a := 64) (b := 64) (by decide) ?_ (by decide) (by decide) (by decide)
        omega
      · refine wide_mul (a := 64) (b := 64) hb.2 ?_ (by decide) (by decide) (by decide)
        omega
      · have e : iD (moreA (mcount ts) n i) ++ [.int (cc * ((n : Int) - 2 * (i : Int)))] = iD (moreA (mcount ts) n (i + 1)) := by
          have g : (mcount ts).getD i 0 = cc := by rw [List.getD_eq_getElem?_getD, hc]; rfl
          unfold moreA
          rw [List.range_succ, List.map_append, ← List.cons_append, iD_app]
          simp only [List.map_cons, List.map_nil, g]
        rw [e]
        exact .same (.same (.same (.same (.same (.same (.same (.same (.same (.same (.drop (.same (.same (.same (.drop (.same (.same (.same (.same (.same (.same (.same (.same (.nil)))))))))))))))))))))))
    rw [enumD_len]
    simp only [List.length_map]
    refine ws_s (ws_asg (s := .ow (iD (((mcount ts ++ [0]).zip (moreA (mcount ts) n (mcount ts).length)).map fun p : Int × Int => p.1 + 1 * p.2))) (es_f ((ef_lcM (xs := (mcount ts ++ [0]).zip (moreA (mcount ts) n (mcount ts).length)) (enc := fun p => .tuple [.int p.1, .int p.2]) (by rw [← zipD_map]; exact ei_zipL ev_v ev_v) (fun p => .int (p.1 + p.2)) ?_ fun p hp => ⟨_, bd_tup (bds_cons bd_name (bds_cons bd_name bds_nil)), by simp, ev_add ev_v ev_v, lf_int⟩).cast ?_) (lfs_ints _)) rfl) ?_
    · rw [List.length_zip]
      simp; omega
    · simp only [iD, List.map_map, Function.comp_def, Int.one_mul]
    refine ws_s (e := ((((eL d c (.im dd) (.im (nD n)) (.im (wD n ts)) .no .no .no (.im (.list (iD (mcount ts)))) .no).set 15 (.im (wD (n + 1) (coneT n ts)))).set 16 (.ow (iD (mcount ts ++ [0])))).set 17 (.ow (iD (moreA (mcount ts) n (mcount ts).length)))).set 9 (.ow (iD (mcount (coneT n ts))))) (ws_trim (ts := coneT n ts) (f := fun s => ((((eL d c (.im dd) (.im (nD n)) (.im (wD n ts)) .no .no .no (.im (.list (iD (mcount ts)))) .no).set 15 (.im (wD (n + 1) (coneT n ts)))).set 16 (.ow (iD (mcount ts ++ [0])))).set 17 (.ow (iD (moreA (mcount ts) n (mcount ts).length)))).set 9 s) (fun _ => rfl) (fun _ _ => rfl) (due_cone ho) ?_ rfl) ?_
    · intro z
      have := congrArg List.length z
      simp [moreA] at this
    refine ws_if (b := false) (eb_test ((ev_ne (ef_listT (ev_call (ea_cons ev_v ea_nil) ⟨n + 1, coneT n ts, by omega, hcc.within, by omega, rfl, rfl⟩)).dd ev_v (shp_iD _) (shp_iD _)).cast (by rw [eqv_iD]; simp))) (fun h => by cases h) (fun _ => ws_next ?_)
    exact .same (.same (.same (.same (.same (.same (.same (.same (.same (.drop (.same (.same (.same (.same (.same (.drop (.drop (.drop (.same (.same (.same (.same (.same (.nil)))))))))))))))))))))))
  rintro e hfg
  refine WpS.fg (env' := eL d c (.im dd) (.im (nD n)) (.im (wD n ts)) .no .no .no (.im (.list (iD (mcount ts)))) .no) ?_ hfg
  -- beside
  refine ws_seq (M := fun e => ∃ (m : Nat) (us : List Tie), n + m < 10 ∧ WebOk m 12 us ∧ e = (eL d c (.im dd) (.im (nD n)) (.im (wD n ts)) .no .no .no (.im (.list (iD (mcount ts)))) .no).set 18 (.im (wD m us))) (ws_asgX (ex_src (n := 1) (da := d) (ca := c) rfl (exa_cons (P := fun z => ∃ m : Nat, n + m < 10 ∧ z = nD m) ((ex_pick (n := 1) (da := d) (ca := c) (k := 10 - (n : Int)) rfl (ex_z (ez_lf (ev_sub ev_int ev_v) lf_int) rfl)).mono ?_) (exa_cons (P := fun z => z = .int 12) (ex_z (ez_lf ev_int lf_int) rfl) exa_nil)) ?_) ?_) ?_
  · rintro z ⟨r, rfl, h0, h1⟩
    refine ⟨r.toNat, by omega, ?_⟩
    have : ((r.toNat : Nat) : Int) = r := by omega
    unfold nD; rw [this]
  · rintro ds ⟨_, _, rfl, ⟨m, hm, rfl⟩, _, _, rfl, rfl, rfl⟩
    refine ⟨by simp [lfs, lf], wD m [], m, 12, by omega, by decide, by decide, rfl, [], ⟨by simp, List.nodup_nil, by decide⟩, rfl⟩
  · rintro z ⟨ds, ⟨_, _, rfl, ⟨m, hm, rfl⟩, _, _, rfl, rfl, rfl⟩, m', x', hm', h0', h1', he, us, hus, rfl⟩
    obtain ⟨e1, e2⟩ := List.cons.inj he
    have e3 : m = m' := by have := PyData.int.inj e1; omega
    subst e3
    have e4 : 12 = x' := PyData.int.inj (List.cons.inj e2).1
    subst e4
    exact ⟨m, us, hm, hus, rfl⟩
  rintro e ⟨m, us, hm, hus, rfl⟩
  have hou : Ord m us := hus.ord
  have hu12 : us.length ≤ 12 := by have := hus.le; omega
  have hbo := beside_ord (n := n) (m := m) ho hou
  have hbl : (srt (ts ++ us.map (shiftT n))).length ≤ 63 := by
    rw [(srt_perm _).length_eq]; simp; omega
  have hbd2 := mcount_bd us (by omega)
  refine ws_if (b := false) (eb_test ((ev_ne (ef_listT (ev_call (ea_cons (ev_call (ea_cons ev_v (ea_cons ev_v ea_nil)) ⟨n, m, ts, us, by omega, by omega, rfl, rfl⟩) ea_nil) ⟨n + m, srt (ts ++ us.map (shiftT n)), by omega, hbo.within, hbl, rfl, rfl⟩)).dd (ef_listL (ef_call (ea_cons ev_v (ea_cons (ef_cnt (ev_ixT (d := nD m) ev_v ev_int rfl) (ev_ixT (d := .tuple (us.map tD)) ev_v ev_int rfl) (by omega) hou (by omega)).dd ea_nil)) ⟨mcount ts, mcount us, fun c hc => (hbd c hc).2, fun c hc => (hbd2 c hc).2, ?_, ?_, ?_, rfl, rfl⟩).dd).dd (shp_iD _) (shp_iD _)).cast (by rw [eqv_iD, beside_counts (m := m) ho]; simp))) (fun h => by cases h) (fun _ => ws_next ?_)
  · exact ⟨_, .same (.same (.drop (.drop (.drop (.same (.same (.same (.drop (.same (.same (.same (.same (.same (.same (.same (.same (.same (.drop (.same (.same (.same (.same (.nil))))))))))))))))))))))), rfl⟩
  · have := mcount_lenT ts; omega
  · have := mcount_lenT us; omega
  · have := (mcount_can ts).ne
    have := List.length_pos_iff.mpr this
    omega
end K72
/-! K72Z: each def keeps its promise; the law. -/
namespace K72
open PySem PySem.Spec PyProof.Rows L2 VL

section
variable {P : Program} {w : World} {K : PySem.W.Frag} {mg : Str → Option Value} {base H : Heap} {f : Addr} {fd : FuncData}
theorem lenD {K : PySem.W.Frag} {H : Hp} {Sig : List D → D → Prop} {vs : List V} {Q : VK} {E : XK} {n : Nat} (h : spD K Sig vs H Q E) (hs : ∀ ds d, Sig ds d → ds.length = n) : vs.length = n := by
  obtain ⟨ds, d, h1, h2, _⟩ := h
  rw [dqs_len h1]; exact hs ds d h2
theorem lenF {K : PySem.W.Frag} {H : Hp} {Sig : List D → List D → Prop} {vs : List V} {Q : VK} {E : XK} {n : Nat} (h : spF K Sig vs H Q E) (hs : ∀ ds d, Sig ds d → ds.length = n) : vs.length = n := by
  obtain ⟨ds, d, h1, h2, _⟩ := h
  rw [dqs_len h1]; exact hs ds d h2
theorem run_of {K : PySem.W.Frag} {B H : Hp} {env : VL.Env} {N : List Str} {vs : List V} {ts : TS} {Q : VK} (r : R K B env (L2.start N vs) H) (h : WpS K B ts env { nx := fun _ => False, rt := Q }) : ts { nx := fun _ H' => Q .non H', rt := Q } (L2.start N vs) H :=
  h B (Evl.Ex.refl _) _ _ _ r (fun _ _ _ q => q.elim) (fun _ _ q => q) (fun _ _ _ q => q.elim) (fun _ _ _ q => q.elim)
theorem wD_inj {n n' : Nat} {ts ts' : List Tie} (h : wD n ts = wD n' ts') : n = n' ∧ ts = ts' := by
  have h1 := List.cons.inj (PyData.tuple.inj h)
  have h2 := PyData.int.inj h1.1
  have h3 := PyData.tuple.inj (List.cons.inj h1.2).1
  refine ⟨by omega, ?_⟩
  have inj : ∀ a b : Tie, tD a = tD b → a = b := fun a b h => by
    have h1 := List.cons.inj (PyData.tuple.inj h)
    have h2 := PyData.int.inj h1.1
    have h3 := PyData.int.inj (List.cons.inj h1.2).1
    exact Prod.ext (by omega) (by omega)
  clear h h1 h2
  induction ts generalizing ts' with
  | nil => cases ts' with
    | nil => rfl
    | cons => simp at h3
  | cons t ts ih => cases ts' with
    | nil => simp at h3
    | cons t' ts' =>
      obtain ⟨a, b⟩ := List.cons.inj h3
      rw [inj _ _ a, ih b]
theorem ok_has_web_ring (F : Fun K "has_web_ring" "has_web_ring" s_has_web_ring f fd) (mn : Mn mg) : FnOk P w K mg base CX0 1 f fd ["web"] (spD K SgRing) :=
  F.ok sc_has_web_ring (fun vs H Q E h => lenD h fun ds d q => by obtain ⟨n, ts, _, _, rfl, _⟩ := q; rfl) fun cdv A outer s H vs Q E hr h => by
    obtain ⟨ds, d, hd, ⟨n, ts, hn, hw, rfl, rfl⟩, q⟩ := ret_spD h
    exact ⟨_, dv_has_web_ring mn hr, body_of (N := n_has_web_ring) hd (w_has_web_ring hn hw q)⟩
theorem ok_polynomial_sum (F : Fun K "polynomial_sum" "polynomial_sum" s_polynomial_sum f fd) (mn : Mn mg) : FnOk P w K mg base CX0 1 f fd ["one", "other", "times"] (spF K SgSum) :=
  F.ok sc_polynomial_sum (fun vs H Q E h => lenF h fun ds d q => by obtain ⟨a, b, t, _, _, _, _, rfl, _⟩ := q; rfl) fun cdv A outer s H vs Q E hr h => by
    obtain ⟨ds, es, hd, ⟨a, b, t, h1, h2, h3, h4, rfl, rfl⟩, q⟩ := ret_spF h
    exact ⟨_, dv_polynomial_sum mn hr, body_of (N := n_polynomial_sum) hd (w_polynomial_sum h1 h2 h3 h4 q)⟩
theorem ok_polynomial_times (F : Fun K "polynomial_times" "polynomial_times" s_polynomial_times f fd) (mn : Mn mg) : FnOk P w K mg base CX0 1 f fd ["one", "other"] (spF K SgTimes) :=
  F.ok sc_polynomial_times (fun vs H Q E h => lenF h fun ds d q => by obtain ⟨a, b, _, _, _, _, _, rfl, _⟩ := q; rfl) fun cdv A outer s H vs Q E hr h => by
    obtain ⟨ds, es, hd, ⟨a, b, h1, h2, h3, h4, h5, rfl, rfl⟩, q⟩ := ret_spF h
    exact ⟨_, dv_polynomial_times mn hr, body_of (N := n_polynomial_times) hd (w_polynomial_times h1 h2 h3 h4 h5 q)⟩
theorem ok_law_product (F : Fun K "_law_product" "_law_product" s_law_product f fd) (mn : Mn mg) : FnOk P w K mg base CX0 1 f fd ["one", "other"] (spF K SgTimes) :=
  F.ok sc_law_product (fun vs H Q E h => lenF h fun ds d q => by obtain ⟨a, b, _, _, _, _, _, rfl, _⟩ := q; rfl) fun cdv A outer s H vs Q E hr h => by
    obtain ⟨ds, es, hd, ⟨a, b, h1, h2, h3, h4, h5, rfl, rfl⟩, q⟩ := ret_spF h
    exact ⟨_, dv_law_product mn hr, body_of (N := n_law_product) hd (w_polynomial_times h1 h2 h3 h4 h5 q)⟩
theorem ok_least_tied (F : Fun K "least_tied" "least_tied" s_least_tied f fd) (mn : Mn mg) : FnOk P w K mg base CX0 1 f fd ["names", "ties"] (spD K SgLeast) :=
  F.ok sc_least_tied (fun vs H Q E h => lenD h fun ds d q => by obtain ⟨V, ts, _, rfl, _⟩ := q; rfl) fun cdv A outer s H vs Q E hr h => by
    obtain ⟨ds, d, hd, ⟨V, ts, h1, rfl, rfl⟩, q⟩ := ret_spD h
    exact ⟨_, dv_least_tied mn hr, body_of (N := n_least_tied) hd (w_least_tied h1 q)⟩
theorem ok_counts_within (F : Fun K "counts_within" "counts_within" s_counts_within f fd) (mn : Mn mg) (c1 : VL.Cal P w K mg base 1 "least_tied" ["names", "ties"] (spD K SgLeast)) (c2 : VL.Cal P w K mg base 1 "polynomial_sum" ["one", "other", "times"] (spF K SgSum)) : FnOk P w K mg base CX0 2 f fd ["names", "ties"] (spF K SgWithin) :=
  F.ok sc_counts_within (fun vs H Q E h => lenF h fun ds d q => by obtain ⟨n, ts, _, _, _, rfl, _⟩ := q; rfl) fun cdv A outer s H vs Q E hr h => by
    obtain ⟨ds, es, hd, ⟨n, ts, h1, h2, h3, rfl, rfl⟩, q⟩ := ret_spF h
    exact ⟨_, dv_counts_within mn c1 c2 hr, body_of (N := n_counts_within) hd (w_counts_within h1 h2 h3 q)⟩
theorem ok_names_by_ways (F : Fun K "names_by_ways" "names_by_ways" s_names_by_ways f fd) (mn : Mn mg) : FnOk P w K mg base CX0 1 f fd ["web"] (spFP K PreWays PostWays) :=
  F.ok sc_names_by_ways (fun vs H Q E h => by
    obtain ⟨ds, hd, ⟨n, ts, _, _, _, rfl⟩, _⟩ := h
    rw [dqs_len hd]; rfl) fun cdv A outer s H vs Q E hr h => by
    obtain ⟨ds, hd, ⟨n, ts, h1, h2, h3, rfl⟩, q⟩ := ret_spFP h
    refine ⟨_, dv_names_by_ways mn hr, body_of (N := n_names_by_ways) hd (w_names_by_ways h1 h2 h3 fun F hF => q _ fun n' ts' e => ?_)⟩
    obtain ⟨rfl, rfl⟩ := wD_inj (List.cons.inj e).1
    exact ⟨F, hF, rfl⟩
theorem ok_forest_counts (F : Fun K "forest_counts" "forest_counts" s_forest_counts f fd) (mn : Mn mg) (c1 : VL.Cal P w K mg base 1 "names_by_ways" ["web"] (spFP K PreWays PostWays)) (c2 : VL.Cal P w K mg base 1 "polynomial_sum" ["one", "other", "times"] (spF K SgSum)) (c3 : VL.Cal P w K mg base 1 "polynomial_times" ["one", "other"] (spF K SgTimes)) : FnOk P w K mg base CX0 2 f fd ["web"] (spF K SgForest) :=
  F.ok sc_forest_counts (fun vs H Q E h => lenF h fun ds d q => by obtain ⟨n, ts, _, _, _, _, rfl, _⟩ := q; rfl) fun cdv A outer s H vs Q E hr h => by
    obtain ⟨ds, es, hd, ⟨n, ts, h1, h2, h3, h4, rfl, rfl⟩, q⟩ := ret_spF h
    exact ⟨_, dv_forest_counts mn c1 c2 c3 hr, body_of (N := n_forest_counts) hd (w_forest_counts h1 h2 h3 h4 q)⟩
theorem ok_pairing_counts (F : Fun K "pairing_counts" "pairing_counts" s_pairing_counts f fd) (mn : Mn mg) (c1 : VL.Cal P w K mg base 1 "has_web_ring" ["web"] (spD K SgRing)) (c2 : VL.Cal P w K mg base 2 "forest_counts" ["web"] (spF K SgForest)) (c3 : VL.Cal P w K mg base 2 "counts_within" ["names", "ties"] (spF K SgWithin)) : FnOk P w K mg base CX0 3 f fd ["web"] (spD K SgPair) :=
  F.ok sc_pairing_counts (fun vs H Q E h => lenD h fun ds d q => by obtain ⟨n, ts, _, _, _, rfl, _⟩ := q; rfl) fun cdv A outer s H vs Q E hr h => by
    obtain ⟨ds, d, hd, ⟨n, ts, h1, h2, h3, rfl, rfl⟩, q⟩ := ret_spD h
    exact ⟨_, dv_pairing_counts mn c1 c2 c3 hr, body_of (N := n_pairing_counts) hd (w_pairing_counts h1 h2 h3 q)⟩
theorem ok_most_pairs (F : Fun K "most_pairs" "most_pairs" s_most_pairs f fd) (mn : Mn mg) (c1 : VL.Cal P w K mg base 3 "pairing_counts" ["web"] (spD K SgPair)) : FnOk P w K mg base CX0 4 f fd ["web"] (spD K SgMost) :=
  F.ok sc_most_pairs (fun vs H Q E h => lenD h fun ds d q => by obtain ⟨n, ts, _, _, _, rfl, _⟩ := q; rfl) fun cdv A outer s H vs Q E hr h => by
    obtain ⟨ds, d, hd, ⟨n, ts, h1, h2, h3, rfl, rfl⟩, q⟩ := ret_spD h
    exact ⟨_, dv_most_pairs mn c1 hr, body_of (N := n_most_pairs) hd (w_most_pairs h1 h2 h3 q)⟩
theorem ok_pairing_polynomial (F : Fun K "pairing_polynomial" "pairing_polynomial" s_pairing_polynomial f fd) (mn : Mn mg) (c1 : VL.Cal P w K mg base 3 "pairing_counts" ["web"] (spD K SgPair)) : FnOk P w K mg base CX0 4 f fd ["web"] (spD K SgPoly) :=
  F.ok sc_pairing_polynomial (fun vs H Q E h => lenD h fun ds d q => by obtain ⟨n, ts, _, _, _, rfl, _⟩ := q; rfl) fun cdv A outer s H vs Q E hr h => by
    obtain ⟨ds, d, hd, ⟨n, ts, h1, h2, h3, rfl, rfl⟩, q⟩ := ret_spD h
    exact ⟨_, dv_pairing_polynomial mn c1 hr, body_of (N := n_pairing_polynomial) hd (w_pairing_polynomial h1 h2 h3 q)⟩
theorem ok_webs_beside (F : Fun K "webs_beside" "webs_beside" s_webs_beside f fd) (mn : Mn mg) : FnOk P w K mg base CX0 1 f fd ["one", "other"] (spD K SgBeside) :=
  F.ok sc_webs_beside (fun vs H Q E h => lenD h fun ds d q => by obtain ⟨n, m, ts, us, _, _, rfl, _⟩ := q; rfl) fun cdv A outer s H vs Q E hr h => by
    obtain ⟨ds, d, hd, ⟨n, m, ts, us, h1, h2, rfl, rfl⟩, q⟩ := ret_spD h
    exact ⟨_, dv_webs_beside mn hr, body_of (N := n_webs_beside) hd (w_webs_beside h1 h2 q)⟩
theorem ok_law_full (F : Fun K "_law_full" "_law_full" s_law_full f fd) (mn : Mn mg) : FnOk P w K mg base CX0 1 f fd ["n", "j"] (spD K SgFull) :=
  F.ok sc_law_full (fun vs H Q E h => lenD h fun ds d q => by obtain ⟨n, j, _, _, rfl, _⟩ := q; rfl) fun cdv A outer s H vs Q E hr h => by
    obtain ⟨ds, d, hd, ⟨n, j, h1, h2, rfl, rfl⟩, q⟩ := ret_spD h
    exact ⟨_, dv_law_full mn hr, body_of (N := n_law_full) hd (w_law_full h1 h2 q)⟩
theorem ok_law_open_cells (F : Fun K "_law_open_cells" "_law_open_cells" s_law_open_cells f fd) (mn : Mn mg) : FnOk P w K mg base CX0 1 f fd ["script"] (spOpen K) :=
  F.ok sc_law_open_cells (fun vs H Q E h => by obtain ⟨a, ns, rfl, _⟩ := h; rfl) fun cdv A outer s H vs Q E hr h => by
    obtain ⟨a, ns, rfl, hs, hl, q⟩ := h
    exact ⟨_, dv_law_open_cells mn hr, run_of (start_ptr (N := n_law_open_cells)) (w_open hs hl q)⟩
theorem ok_law_pick (F : Fun K "_law_pick" "_law_pick" s_law_pick f fd) (mn : Mn mg) : FnOk P w K mg base CX0 1 f fd ["source", "most"] spPick :=
  F.ok sc_law_pick (fun vs H Q E h => by obtain ⟨d, c, m, rfl, _⟩ := h; rfl) fun cdv A outer s H vs Q E hr h => by
    obtain ⟨d, c, m, rfl, hb, hs, q⟩ := h
    obtain ⟨l, mm, t, cs, hx⟩ := id hs
    exact ⟨_, dv_law_pick mn hr, run_of (start_src (N := n_law_pick) (cc := srcX d c l mm t cs) hs ⟨rfl, rfl, hx⟩ (ds := [.int m]) (.cons (.int m) .nil)) (w_pick hb q)⟩
theorem ok_law_web (F : Fun K "_law_web" "_law_web" s_law_web f fd) (mn : Mn mg) (c1 : VL.Cal P w K mg base 1 "_law_pick" ["source", "most"] spPick) : FnOk P w K mg base CX0 2 f fd ["source", "n", "most"] (spSrc K SgWeb) :=
  F.ok sc_law_web (fun vs H Q E h => by
    obtain ⟨d, c, ws, ds, rfl, hs, hd, _, ⟨e, n, m, _, _, _, rfl, _⟩, _⟩ := h
    rw [List.length_cons, dqs_len (hd H fun _ _ _ q => q)]; rfl) fun cdv A outer s H vs Q E hr h => by
    obtain ⟨d, c, ws, ds, rfl, hs, hd, _, ⟨e, n, m, hn, h0, h1, rfl, _⟩, q⟩ := h
    have hd' := hd (offS d c H) fun v e l h => lf_dq (offS_tup hs) e v l h
    exact ⟨_, dv_law_web mn c1 hr, run_of (start_src (N := n_law_web) (cc := srcC d c) hs ⟨rfl, rfl, hs⟩ hd') (w_law_web hn h0 h1 fun ts v H' hw k s' hv => q _ v H' ⟨n, m, hn, h0, h1, rfl, ts, hw, rfl⟩ k s' hv (lf_wD n ts))⟩
theorem start_cnt {K : PySem.W.Frag} {w : World} {H : Hp} {a : Addr} {n N : Nat} {F : Addr → Prop} {ts : List Tie} {v : V} (hd : Dq K H v (.tuple (ts.map tD))) (hm : Memo K w a N F yes H H) (hF : ∀ l, H l = none → F l) :
    R K (offA a H) [.im (nD n), .im (.tuple (ts.map tD)), .cu (memoC K w a N F yes), .no, .no, .no, .no, .no, .no, .no, .no, .no, .no, .no, .no, .no, .no] (L2.start n_law_counts [.int n, v, .ref a]) H := by
  obtain ⟨es, ha, _⟩ := id hm
  have hz : ∀ v d, Dq K H v d → Dq K (offA a H) v d := fun v d h => (dq_seq (offA_seq ha)).1 v d h
  refine ⟨offA a H, fun j => if j = 2 then [a] else [], Evl.Ex.refl _, offA_ex a H, fun i b hb => ?_, fun i b hb => ?_, fun i j b hi hj => ?_, rfl, fun i s e => ?_⟩
  · split at hb
    · rw [List.mem_singleton.mp hb]; unfold offA; rw [if_pos rfl]
    · cases hb
  · split at hb
    · rw [List.mem_singleton.mp hb]; exact ⟨_, ha, rfl⟩
    · cases hb
  · split at hi
    · split at hj
      · omega
      · cases hj
    · cases hi
  · match i with
    | 0 => cases e; exact ⟨rfl, _, rfl, .int _⟩
    | 1 => cases e; exact ⟨rfl, _, rfl, hz _ _ hd⟩
    | 2 => cases e; exact ⟨_, rfl, rfl, rfl, hm.mono hz rfl (Nat.le_refl _) fun _ g => g, fun l hl hla => hF l (by unfold offA at hl; rwa [if_neg hla] at hl)⟩
    | i + 3 =>
      have : s = .no := by
        have h2 := List.getElem?_eq_some_iff.mp e
        obtain ⟨h3, h4⟩ := h2
        have hi : i < 14 := by simp at h3; omega
        match i, hi with
        | 0, _ | 1, _ | 2, _ | 3, _ | 4, _ | 5, _ | 6, _ | 7, _ | 8, _ | 9, _ | 10, _ | 11, _ | 12, _ | 13, _ => exact h4.symm
      subst this
      exact rfl
theorem ok_law_counts (F : Fun K "_law_counts" "_law_counts" s_law_counts f fd) (mn : Mn mg) (hm : mg "_law_counts" = some (.ref f)) (hb : Binds K fd ["n", "ties", "known"] []) : ∀ m, m ≤ 12 → FnOk P w K mg base CX0 (m + 1) f fd ["n", "ties", "known"] (spCnt K w m)
  | 0, _ => F.ok sc_law_counts (fun vs H Q E h => by obtain ⟨a, n, ts, v, N, G, rfl, _⟩ := h; rfl) fun cdv A outer s H vs Q E hr h => by
    obtain ⟨a, n, ts, v, N, G, rfl, h1, _⟩ := h
    omega
  | m + 1, hle => F.ok sc_law_counts (fun vs H Q E h => by obtain ⟨a, n, ts, v, N, G, rfl, _⟩ := h; rfl) fun cdv A outer s H vs Q E hr h => by
    obtain ⟨a, n, ts, v, N, G, rfl, h1, ho, hl, hd, hmm, hN, hF, q⟩ := h
    have ih := ok_law_counts F mn hm hb m (by omega)
    exact ⟨_, dv_law_counts mn (kk := m + 1) (Nat.zero_le _) ⟨f, fd, ih, hm, F.kp, hb⟩ hr, run_of (start_cnt hd hmm hF) (w_law_counts h1 (by omega) ho hl hN q)⟩
def spLaw (K : PySem.W.Frag) : Sp := fun vs H Q _ => ∃ (a : Addr) (ns : List Int), vs = [.ref a] ∧ SqL K H a (ns.map V.int) ∧ ns.length ≤ 63 ∧ ∀ H', Q (.bl true) H'
theorem ok_law (F : Fun K "law" "law" s_law f fd) (mn : Mn mg) (c1 : VL.Cal P w K mg base 1 "_law_open_cells" ["script"] (spOpen K)) (c2 : VL.Cal P w K mg base 1 "_law_pick" ["source", "most"] spPick) (c3 : VL.Cal P w K mg base 2 "_law_web" ["source", "n", "most"] (spSrc K SgWeb)) (c4 : VL.Cal P w K mg base 12 "_law_counts" ["n", "ties", "known"] (spCnt K w 10)) (c5 : VL.Cal P w K mg base 3 "pairing_counts" ["web"] (spD K SgPair)) (c6 : VL.Cal P w K mg base 4 "most_pairs" ["web"] (spD K SgMost)) (c7 : VL.Cal P w K mg base 1 "_law_full" ["n", "j"] (spD K SgFull)) (c8 : VL.Cal P w K mg base 4 "pairing_polynomial" ["web"] (spD K SgPoly)) (c9 : VL.Cal P w K mg base 1 "webs_beside" ["one", "other"] (spD K SgBeside)) (c10 : VL.Cal P w K mg base 1 "_law_product" ["one", "other"] (spF K SgTimes)) : FnOk P w K mg base CX0 13 f fd ["script"] (spLaw K) :=
  F.ok sc_law (fun vs H Q E h => by obtain ⟨a, ns, rfl, _⟩ := h; rfl) fun cdv A outer s H vs Q E hr h => by
    obtain ⟨a, ns, rfl, hs, hl, q⟩ := h
    exact ⟨_, dv_law mn c1 c2 c3 c4 c5 c6 c7 c8 c9 c10 hr, run_of (start_ptr (N := n_law)) (w_law hs hl fun v H' e => by rw [e]; exact q H')⟩
end
/-! ### what the top has written; the law's own head -/
theorem all_mk {l : PySem.W.OpenLaw} {w : World} {K : PySem.W.Frag} {h : Heap} {mg : Str → Option Value} {fa f0 f1 f2 f3 f4 f5 f6 f7 f8 f9 f10 f11 f12 f13 f14 f15 f16 f17 : Addr} (X : K.In h) (G : h.Ns mainGlobals mg) (hfa : mg "law" = some (.ref fa))
    {od0 an0 : Option Addr} {sl0 : Array (Option Value)} {oc0 kV0 dc0 pm0 cd0 ct0 : Value}
    (a0 : PySem.W.nsIn K mainGlobals "has_web_ring" = some (some (.ref f0))) (l0 : K.lookup f0 = some ⟨oc0, od0, .func (PySem.W.fnOf "has_web_ring" "has_web_ring" (defArgs s_has_web_ring) (defBody s_has_web_ring) (defScope s_has_web_ring) .none kV0 dc0 pm0 an0 cd0 ct0), sl0⟩) (c0 : PySem.W.codeIn K cd0 "has_web_ring" = true) (k0 : PySem.W.keepIn K (.ref f0) = true)
    {od1 an1 : Option Addr} {sl1 : Array (Option Value)} {oc1 kV1 dc1 pm1 cd1 ct1 : Value}
    (a1 : PySem.W.nsIn K mainGlobals "polynomial_sum" = some (some (.ref f1))) (l1 : K.lookup f1 = some ⟨oc1, od1, .func (PySem.W.fnOf "polynomial_sum" "polynomial_sum" (defArgs s_polynomial_sum) (defBody s_polynomial_sum) (defScope s_polynomial_sum) .none kV1 dc1 pm1 an1 cd1 ct1), sl1⟩) (c1 : PySem.W.codeIn K cd1 "polynomial_sum" = true) (k1 : PySem.W.keepIn K (.ref f1) = true)
    {od2 an2 : Option Addr} {sl2 : Array (Option Value)} {oc2 kV2 dc2 pm2 cd2 ct2 : Value}
    (a2 : PySem.W.nsIn K mainGlobals "least_tied" = some (some (.ref f2))) (l2 : K.lookup f2 = some ⟨oc2, od2, .func (PySem.W.fnOf "least_tied" "least_tied" (defArgs s_least_tied) (defBody s_least_tied) (defScope s_least_tied) .none kV2 dc2 pm2 an2 cd2 ct2), sl2⟩) (c2 : PySem.W.codeIn K cd2 "least_tied" = true) (k2 : PySem.W.keepIn K (.ref f2) = true)
    {od3 an3 : Option Addr} {sl3 : Array (Option Value)} {oc3 kV3 dc3 pm3 cd3 ct3 : Value}
    (a3 : PySem.W.nsIn K mainGlobals "counts_within" = some (some (.ref f3))) (l3 : K.lookup f3 = some ⟨oc3, od3, .func (PySem.W.fnOf "counts_within" "counts_within" (defArgs s_counts_within) (defBody s_counts_within) (defScope s_counts_within) .none kV3 dc3 pm3 an3 cd3 ct3), sl3⟩) (c3 : PySem.W.codeIn K cd3 "counts_within" = true) (k3 : PySem.W.keepIn K (.ref f3) = true)
    {od4 an4 : Option Addr} {sl4 : Array (Option Value)} {oc4 kV4 dc4 pm4 cd4 ct4 : Value}
    (a4 : PySem.W.nsIn K mainGlobals "polynomial_times" = some (some (.ref f4))) (l4 : K.lookup f4 = some ⟨oc4, od4, .func (PySem.W.fnOf "polynomial_times" "polynomial_times" (defArgs s_polynomial_times) (defBody s_polynomial_times) (defScope s_polynomial_times) .none kV4 dc4 pm4 an4 cd4 ct4), sl4⟩) (c4 : PySem.W.codeIn K cd4 "polynomial_times" = true) (k4 : PySem.W.keepIn K (.ref f4) = true)
    {od5 an5 : Option Addr} {sl5 : Array (Option Value)} {oc5 kV5 dc5 pm5 cd5 ct5 : Value}
    (a5 : PySem.W.nsIn K mainGlobals "names_by_ways" = some (some (.ref f5))) (l5 : K.lookup f5 = some ⟨oc5, od5, .func (PySem.W.fnOf "names_by_ways" "names_by_ways" (defArgs s_names_by_ways) (defBody s_names_by_ways) (defScope s_names_by_ways) .none kV5 dc5 pm5 an5 cd5 ct5), sl5⟩) (c5 : PySem.W.codeIn K cd5 "names_by_ways" = true) (k5 : PySem.W.keepIn K (.ref f5) = true)
    {od6 an6 : Option Addr} {sl6 : Array (Option Value)} {oc6 kV6 dc6 pm6 cd6 ct6 : Value}
    (a6 : PySem.W.nsIn K mainGlobals "forest_counts" = some (some (.ref f6))) (l6 : K.lookup f6 = some ⟨oc6, od6, .func (PySem.W.fnOf "forest_counts" "forest_counts" (defArgs s_forest_counts) (defBody s_forest_counts) (defScope s_forest_counts) .none kV6 dc6 pm6 an6 cd6 ct6), sl6⟩) (c6 : PySem.W.codeIn K cd6 "forest_counts" = true) (k6 : PySem.W.keepIn K (.ref f6) = true)
    {od7 an7 : Option Addr} {sl7 : Array (Option Value)} {oc7 kV7 dc7 pm7 cd7 ct7 : Value}
    (a7 : PySem.W.nsIn K mainGlobals "pairing_counts" = some (some (.ref f7))) (l7 : K.lookup f7 = some ⟨oc7, od7, .func (PySem.W.fnOf "pairing_counts" "pairing_counts" (defArgs s_pairing_counts) (defBody s_pairing_counts) (defScope s_pairing_counts) .none kV7 dc7 pm7 an7 cd7 ct7), sl7⟩) (c7 : PySem.W.codeIn K cd7 "pairing_counts" = true) (k7 : PySem.W.keepIn K (.ref f7) = true)
    {od8 an8 : Option Addr} {sl8 : Array (Option Value)} {oc8 kV8 dc8 pm8 cd8 ct8 : Value}
    (a8 : PySem.W.nsIn K mainGlobals "most_pairs" = some (some (.ref f8))) (l8 : K.lookup f8 = some ⟨oc8, od8, .func (PySem.W.fnOf "most_pairs" "most_pairs" (defArgs s_most_pairs) (defBody s_most_pairs) (defScope s_most_pairs) .none kV8 dc8 pm8 an8 cd8 ct8), sl8⟩) (c8 : PySem.W.codeIn K cd8 "most_pairs" = true) (k8 : PySem.W.keepIn K (.ref f8) = true)
    {od9 an9 : Option Addr} {sl9 : Array (Option Value)} {oc9 kV9 dc9 pm9 cd9 ct9 : Value}
    (a9 : PySem.W.nsIn K mainGlobals "pairing_polynomial" = some (some (.ref f9))) (l9 : K.lookup f9 = some ⟨oc9, od9, .func (PySem.W.fnOf "pairing_polynomial" "pairing_polynomial" (defArgs s_pairing_polynomial) (defBody s_pairing_polynomial) (defScope s_pairing_polynomial) .none kV9 dc9 pm9 an9 cd9 ct9), sl9⟩) (c9 : PySem.W.codeIn K cd9 "pairing_polynomial" = true) (k9 : PySem.W.keepIn K (.ref f9) = true)
    {od10 an10 : Option Addr} {sl10 : Array (Option Value)} {oc10 kV10 dc10 pm10 cd10 ct10 : Value}
    (a10 : PySem.W.nsIn K mainGlobals "webs_beside" = some (some (.ref f10))) (l10 : K.lookup f10 = some ⟨oc10, od10, .func (PySem.W.fnOf "webs_beside" "webs_beside" (defArgs s_webs_beside) (defBody s_webs_beside) (defScope s_webs_beside) .none kV10 dc10 pm10 an10 cd10 ct10), sl10⟩) (c10 : PySem.W.codeIn K cd10 "webs_beside" = true) (k10 : PySem.W.keepIn K (.ref f10) = true)
    {od11 an11 : Option Addr} {sl11 : Array (Option Value)} {oc11 kV11 dc11 pm11 cd11 ct11 : Value}
    (a11 : PySem.W.nsIn K mainGlobals "_law_open_cells" = some (some (.ref f11))) (l11 : K.lookup f11 = some ⟨oc11, od11, .func (PySem.W.fnOf "_law_open_cells" "_law_open_cells" (defArgs s_law_open_cells) (defBody s_law_open_cells) (defScope s_law_open_cells) .none kV11 dc11 pm11 an11 cd11 ct11), sl11⟩) (c11 : PySem.W.codeIn K cd11 "_law_open_cells" = true) (k11 : PySem.W.keepIn K (.ref f11) = true)
    {od12 an12 : Option Addr} {sl12 : Array (Option Value)} {oc12 kV12 dc12 pm12 cd12 ct12 : Value}
    (a12 : PySem.W.nsIn K mainGlobals "_law_pick" = some (some (.ref f12))) (l12 : K.lookup f12 = some ⟨oc12, od12, .func (PySem.W.fnOf "_law_pick" "_law_pick" (defArgs s_law_pick) (defBody s_law_pick) (defScope s_law_pick) .none kV12 dc12 pm12 an12 cd12 ct12), sl12⟩) (c12 : PySem.W.codeIn K cd12 "_law_pick" = true) (k12 : PySem.W.keepIn K (.ref f12) = true)
    {od13 an13 : Option Addr} {sl13 : Array (Option Value)} {oc13 kV13 dc13 pm13 cd13 ct13 : Value}
    (a13 : PySem.W.nsIn K mainGlobals "_law_web" = some (some (.ref f13))) (l13 : K.lookup f13 = some ⟨oc13, od13, .func (PySem.W.fnOf "_law_web" "_law_web" (defArgs s_law_web) (defBody s_law_web) (defScope s_law_web) .none kV13 dc13 pm13 an13 cd13 ct13), sl13⟩) (c13 : PySem.W.codeIn K cd13 "_law_web" = true) (k13 : PySem.W.keepIn K (.ref f13) = true)
    {od14 an14 : Option Addr} {sl14 : Array (Option Value)} {oc14 kV14 dc14 pm14 cd14 ct14 : Value}
    (a14 : PySem.W.nsIn K mainGlobals "_law_counts" = some (some (.ref f14))) (l14 : K.lookup f14 = some ⟨oc14, od14, .func (PySem.W.fnOf "_law_counts" "_law_counts" (defArgs s_law_counts) (defBody s_law_counts) (defScope s_law_counts) .none kV14 dc14 pm14 an14 cd14 ct14), sl14⟩) (c14 : PySem.W.codeIn K cd14 "_law_counts" = true) (k14 : PySem.W.keepIn K (.ref f14) = true)
    {od15 an15 : Option Addr} {sl15 : Array (Option Value)} {oc15 kV15 dc15 pm15 cd15 ct15 : Value}
    (a15 : PySem.W.nsIn K mainGlobals "_law_full" = some (some (.ref f15))) (l15 : K.lookup f15 = some ⟨oc15, od15, .func (PySem.W.fnOf "_law_full" "_law_full" (defArgs s_law_full) (defBody s_law_full) (defScope s_law_full) .none kV15 dc15 pm15 an15 cd15 ct15), sl15⟩) (c15 : PySem.W.codeIn K cd15 "_law_full" = true) (k15 : PySem.W.keepIn K (.ref f15) = true)
    {od16 an16 : Option Addr} {sl16 : Array (Option Value)} {oc16 kV16 dc16 pm16 cd16 ct16 : Value}
    (a16 : PySem.W.nsIn K mainGlobals "_law_product" = some (some (.ref f16))) (l16 : K.lookup f16 = some ⟨oc16, od16, .func (PySem.W.fnOf "_law_product" "_law_product" (defArgs s_law_product) (defBody s_law_product) (defScope s_law_product) .none kV16 dc16 pm16 an16 cd16 ct16), sl16⟩) (c16 : PySem.W.codeIn K cd16 "_law_product" = true) (k16 : PySem.W.keepIn K (.ref f16) = true)
    {od17 an17 : Option Addr} {sl17 : Array (Option Value)} {oc17 kV17 dc17 pm17 cd17 ct17 : Value}
    (a17 : PySem.W.nsIn K mainGlobals "law" = some (some (.ref f17))) (l17 : K.lookup f17 = some ⟨oc17, od17, .func (PySem.W.fnOf "law" "law" (defArgs s_law) (defBody s_law) (defScope s_law) .none kV17 dc17 pm17 an17 cd17 ct17), sl17⟩) (c17 : PySem.W.codeIn K cd17 "law" = true) (k17 : PySem.W.keepIn K (.ref f17) = true)
    (z0 : PySem.W.nsIn K mainGlobals "len" = some none) (z1 : PySem.W.nsIn K mainGlobals "list" = some none) (z2 : PySem.W.nsIn K mainGlobals "tuple" = some none) (z3 : PySem.W.nsIn K mainGlobals "max" = some none) (z4 : PySem.W.nsIn K mainGlobals "min" = some none) (z5 : PySem.W.nsIn K mainGlobals "abs" = some none) (z6 : PySem.W.nsIn K mainGlobals "int" = some none) (z7 : PySem.W.nsIn K mainGlobals "range" = some none) (z8 : PySem.W.nsIn K mainGlobals "enumerate" = some none) (z9 : PySem.W.nsIn K mainGlobals "zip" = some none) (z10 : PySem.W.nsIn K mainGlobals "sorted" = some none) (z11 : PySem.W.nsIn K mainGlobals "sum" = some none) :
    ∃ fd : FuncData, (∀ (s : Shared) (v : Value), BindsTo s fd ⟨[v], []⟩ [("script", v)]) ∧ ∀ base : Heap, K.In base → base.Ns mainGlobals mg → FnOk l.prog w K mg base CX0 13 fa fd ["script"] (spLaw K) := by
  have e := hfa.symm.trans (PySem.W.mg_of X G a17)
  cases e
  have mn : Mn mg := ⟨PySem.W.mg_none_of X G z0, PySem.W.mg_none_of X G z1, PySem.W.mg_none_of X G z2, PySem.W.mg_none_of X G z3, PySem.W.mg_none_of X G z4, PySem.W.mg_none_of X G z5, PySem.W.mg_none_of X G z6, PySem.W.mg_none_of X G z7, PySem.W.mg_none_of X G z8, PySem.W.mg_none_of X G z9, PySem.W.mg_none_of X G z10, PySem.W.mg_none_of X G z11⟩
  have F0 := fun_mk (st := s_has_web_ring) l0 c0 k0
  have F1 := fun_mk (st := s_polynomial_sum) l1 c1 k1
  have F2 := fun_mk (st := s_least_tied) l2 c2 k2
  have F3 := fun_mk (st := s_counts_within) l3 c3 k3
  have F4 := fun_mk (st := s_polynomial_times) l4 c4 k4
  have F5 := fun_mk (st := s_names_by_ways) l5 c5 k5
  have F6 := fun_mk (st := s_forest_counts) l6 c6 k6
  have F7 := fun_mk (st := s_pairing_counts) l7 c7 k7
  have F8 := fun_mk (st := s_most_pairs) l8 c8 k8
  have F9 := fun_mk (st := s_pairing_polynomial) l9 c9 k9
  have F10 := fun_mk (st := s_webs_beside) l10 c10 k10
  have F11 := fun_mk (st := s_law_open_cells) l11 c11 k11
  have F12 := fun_mk (st := s_law_pick) l12 c12 k12
  have F13 := fun_mk (st := s_law_web) l13 c13 k13
  have F14 := fun_mk (st := s_law_counts) l14 c14 k14
  have F15 := fun_mk (st := s_law_full) l15 c15 k15
  have F16 := fun_mk (st := s_law_product) l16 c16 k16
  have F17 := fun_mk (st := s_law) l17 c17 k17
  refine ⟨PySem.W.fnOf "law" "law" (defArgs s_law) (defBody s_law) (defScope s_law) .none kV17 dc17 pm17 an17 cd17 ct17, fun s v => .of_eq rfl, fun base _ _ => ?_⟩
  have b0 := F0.binds (ps := ["web"]) fun _ _ _ _ _ _ us hl => match us, hl with | [_], _ => rfl
  have C0 : VL.Cal l.prog w K mg base 1 "has_web_ring" ["web"] _ := ⟨_, _, ok_has_web_ring F0 mn , PySem.W.mg_of X G a0, F0.kp, b0⟩
  have b1 := F1.binds (ps := ["one", "other", "times"]) fun _ _ _ _ _ _ us hl => match us, hl with | [_, _, _], _ => rfl
  have C1 : VL.Cal l.prog w K mg base 1 "polynomial_sum" ["one", "other", "times"] _ := ⟨_, _, ok_polynomial_sum F1 mn , PySem.W.mg_of X G a1, F1.kp, b1⟩
  have b2 := F2.binds (ps := ["names", "ties"]) fun _ _ _ _ _ _ us hl => match us, hl with | [_, _], _ => rfl
  have C2 : VL.Cal l.prog w K mg base 1 "least_tied" ["names", "ties"] _ := ⟨_, _, ok_least_tied F2 mn , PySem.W.mg_of X G a2, F2.kp, b2⟩
  have b3 := F3.binds (ps := ["names", "ties"]) fun _ _ _ _ _ _ us hl => match us, hl with | [_, _], _ => rfl
  have C3 : VL.Cal l.prog w K mg base 2 "counts_within" ["names", "ties"] _ := ⟨_, _, ok_counts_within F3 mn C2 C1, PySem.W.mg_of X G a3, F3.kp, b3⟩
  have b4 := F4.binds (ps := ["one", "other"]) fun _ _ _ _ _ _ us hl => match us, hl with | [_, _], _ => rfl
  have C4 : VL.Cal l.prog w K mg base 1 "polynomial_times" ["one", "other"] _ := ⟨_, _, ok_polynomial_times F4 mn , PySem.W.mg_of X G a4, F4.kp, b4⟩
  have b5 := F5.binds (ps := ["web"]) fun _ _ _ _ _ _ us hl => match us, hl with | [_], _ => rfl
  have C5 : VL.Cal l.prog w K mg base 1 "names_by_ways" ["web"] _ := ⟨_, _, ok_names_by_ways F5 mn , PySem.W.mg_of X G a5, F5.kp, b5⟩
  have b6 := F6.binds (ps := ["web"]) fun _ _ _ _ _ _ us hl => match us, hl with | [_], _ => rfl
  have C6 : VL.Cal l.prog w K mg base 2 "forest_counts" ["web"] _ := ⟨_, _, ok_forest_counts F6 mn C5 C1 C4, PySem.W.mg_of X G a6, F6.kp, b6⟩
  have b7 := F7.binds (ps := ["web"]) fun _ _ _ _ _ _ us hl => match us, hl with | [_], _ => rfl
  have C7 : VL.Cal l.prog w K mg base 3 "pairing_counts" ["web"] _ := ⟨_, _, ok_pairing_counts F7 mn C0 C6 C3, PySem.W.mg_of X G a7, F7.kp, b7⟩
  have b8 := F8.binds (ps := ["web"]) fun _ _ _ _ _ _ us hl => match us, hl with | [_], _ => rfl
  have C8 : VL.Cal l.prog w K mg base 4 "most_pairs" ["web"] _ := ⟨_, _, ok_most_pairs F8 mn C7, PySem.W.mg_of X G a8, F8.kp, b8⟩
  have b9 := F9.binds (ps := ["web"]) fun _ _ _ _ _ _ us hl => match us, hl with | [_], _ => rfl
  have C9 : VL.Cal l.prog w K mg base 4 "pairing_polynomial" ["web"] _ := ⟨_, _, ok_pairing_polynomial F9 mn C7, PySem.W.mg_of X G a9, F9.kp, b9⟩
  have b10 := F10.binds (ps := ["one", "other"]) fun _ _ _ _ _ _ us hl => match us, hl with | [_, _], _ => rfl
  have C10 : VL.Cal l.prog w K mg base 1 "webs_beside" ["one", "other"] _ := ⟨_, _, ok_webs_beside F10 mn , PySem.W.mg_of X G a10, F10.kp, b10⟩
  have b11 := F11.binds (ps := ["script"]) fun _ _ _ _ _ _ us hl => match us, hl with | [_], _ => rfl
  have C11 : VL.Cal l.prog w K mg base 1 "_law_open_cells" ["script"] _ := ⟨_, _, ok_law_open_cells F11 mn , PySem.W.mg_of X G a11, F11.kp, b11⟩
  have b12 := F12.binds (ps := ["source", "most"]) fun _ _ _ _ _ _ us hl => match us, hl with | [_, _], _ => rfl
  have C12 : VL.Cal l.prog w K mg base 1 "_law_pick" ["source", "most"] _ := ⟨_, _, ok_law_pick F12 mn , PySem.W.mg_of X G a12, F12.kp, b12⟩
  have b13 := F13.binds (ps := ["source", "n", "most"]) fun _ _ _ _ _ _ us hl => match us, hl with | [_, _, _], _ => rfl
  have C13 : VL.Cal l.prog w K mg base 2 "_law_web" ["source", "n", "most"] _ := ⟨_, _, ok_law_web F13 mn C12, PySem.W.mg_of X G a13, F13.kp, b13⟩
  have b14 := F14.binds (ps := ["n", "ties", "known"]) fun _ _ _ _ _ _ us hl => match us, hl with | [_, _, _], _ => rfl
  have C140 : VL.Cal l.prog w K mg base 12 "_law_counts" ["n", "ties", "known"] (spCnt K w 11) := ⟨_, _, ok_law_counts F14 mn (PySem.W.mg_of X G a14) b14 11 (by decide), PySem.W.mg_of X G a14, F14.kp, b14⟩
  have C14 : VL.Cal l.prog w K mg base 12 "_law_counts" ["n", "ties", "known"] (spCnt K w 10) := C140.mono fun vs H Q E ⟨a, n, ts, v, N, F, h1, h2, h3⟩ => ⟨a, n, ts, v, N, F, h1, Nat.lt_succ_of_lt h2, h3⟩
  have b15 := F15.binds (ps := ["n", "j"]) fun _ _ _ _ _ _ us hl => match us, hl with | [_, _], _ => rfl
  have C15 : VL.Cal l.prog w K mg base 1 "_law_full" ["n", "j"] _ := ⟨_, _, ok_law_full F15 mn , PySem.W.mg_of X G a15, F15.kp, b15⟩
  have b16 := F16.binds (ps := ["one", "other"]) fun _ _ _ _ _ _ us hl => match us, hl with | [_, _], _ => rfl
  have C16 : VL.Cal l.prog w K mg base 1 "_law_product" ["one", "other"] _ := ⟨_, _, ok_law_product F16 mn , PySem.W.mg_of X G a16, F16.kp, b16⟩
  exact ok_law F17 mn C11 C12 C13 C14 C7 C8 C15 C9 C10 C16
end K72
open PySem PySem.W PyProof.Rows
set_option maxHeartbeats 0 in
theorem PySem.Challenge.cw_rootsonaline_k72_whole_pairings_of_webs_holds : PySem.Challenge.rw_rootsonaline_k72_whole_pairings_of_webs.Holds := by
  w_on; o_law; k_head; (case hw => w_witness2)
  k_fill
  refine L2.walk_of (l := PySem.Challenge.rw_rootsonaline_k72_whole_pairings_of_webs) (n := 63) (k := 13) (x := "script") (CX := fun _ => L2.CX0) (sp := fun w => K72.spLaw _) rfl (by decide) rfl ⟨rfl, by decide, by decide⟩ (fun w h Y => PySem.W.kIn_of Y) ?F (fun _ _ a ns hl _ hS => ⟨a, ns, rfl, hS, hl, fun _ => rfl⟩) (fun _ _ _ _ _ h => h)
  case F =>
    intro w mg fa h KX G hmg
    refine' K72.all_mk KX G hmg ?a0 ?l0 ?c0 ?k0 ?a1 ?l1 ?c1 ?k1 ?a2 ?l2 ?c2 ?k2 ?a3 ?l3 ?c3 ?k3 ?a4 ?l4 ?c4 ?k4 ?a5 ?l5 ?c5 ?k5 ?a6 ?l6 ?c6 ?k6 ?a7 ?l7 ?c7 ?k7 ?a8 ?l8 ?c8 ?k8 ?a9 ?l9 ?c9 ?k9 ?a10 ?l10 ?c10 ?k10 ?a11 ?l11 ?c11 ?k11 ?a12 ?l12 ?c12 ?k12 ?a13 ?l13 ?c13 ?k13 ?a14 ?l14 ?c14 ?k14 ?a15 ?l15 ?c15 ?k15 ?a16 ?l16 ?c16 ?k16 ?a17 ?l17 ?c17 ?k17 ?z0 ?z1 ?z2 ?z3 ?z4 ?z5 ?z6 ?z7 ?z8 ?z9 ?z10 ?z11
    (case a0 => k_is); (case l0 => k_is); (case c0 => k_is); (case k0 => k_is); (case a1 => k_is); (case l1 => k_is); (case c1 => k_is); (case k1 => k_is); (case a2 => k_is); (case l2 => k_is); (case c2 => k_is); (case k2 => k_is); (case a3 => k_is); (case l3 => k_is); (case c3 => k_is); (case k3 => k_is); (case a4 => k_is); (case l4 => k_is); (case c4 => k_is); (case k4 => k_is); (case a5 => k_is); (case l5 => k_is); (case c5 => k_is); (case k5 => k_is); (case a6 => k_is); (case l6 => k_is); (case c6 => k_is); (case k6 => k_is); (case a7 => k_is); (case l7 => k_is); (case c7 => k_is); (case k7 => k_is); (case a8 => k_is); (case l8 => k_is); (case c8 => k_is); (case k8 => k_is); (case a9 => k_is); (case l9 => k_is); (case c9 => k_is); (case k9 => k_is); (case a10 => k_is); (case l10 => k_is); (case c10 => k_is); (case k10 => k_is); (case a11 => k_is); (case l11 => k_is); (case c11 => k_is); (case k11 => k_is); (case a12 => k_is); (case l12 => k_is); (case c12 => k_is); (case k12 => k_is); (case a13 => k_is); (case l13 => k_is); (case c13 => k_is); (case k13 => k_is); (case a14 => k_is); (case l14 => k_is); (case c14 => k_is); (case k14 => k_is); (case a15 => k_is); (case l15 => k_is); (case c15 => k_is); (case k15 => k_is); (case a16 => k_is); (case l16 => k_is); (case c16 => k_is); (case k16 => k_is); (case a17 => k_is); (case l17 => k_is); (case c17 => k_is); (case k17 => k_is); (case z0 => k_is); (case z1 => k_is); (case z2 => k_is); (case z3 => k_is); (case z4 => k_is); (case z5 => k_is); (case z6 => k_is); (case z7 => k_is); (case z8 => k_is); (case z9 => k_is); (case z10 => k_is); (case z11 => k_is)
