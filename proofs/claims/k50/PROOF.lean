import PyProof.Rows.All
import Wide.All
import OpenK.AllK
import Wide.FinOn
import HandS.ForMost
import HandS.Deep
import HandS.TupAny
import HandS.TupMul
import HandS.TupLe
import HandS.IsInst
import HandS.DictComp
import KE.GoesEnum
import HandS.Rev
import HandS.Zip
import HandS.Strs
import HandS.SetFor
import HandS.SortInts
import HandS.Conv
import HandS.Sort
import HandS.TupSets
import PySem.Challenge.RW_meetsandjoins_k50_whole_moebius_numbers
section
set_option Elab.async false
set_option linter.all false
set_option maxRecDepth 100000
set_option autoImplicit false
namespace FL
open PySem L2

/-! ### owned things -/
inductive O where
  | d (x : PyData)
  | lst (xs : List O)
  | dK (kvs : List (Key × O))
  | dT (kvs : List (List Key × O))
  | ins (c : Nat) (fs : List (Str × O))
  /-- a tuple whose very object is known -/
  | tf (xs : List PyData)
  /-- range(lo, hi) -/
  | rg (lo hi : Int)

/-- the written part, the classes' addresses -/
structure Gd where
  K : PySem.W.Frag
  cls : Nat → Addr

def off (H : Hp) (S : List Addr) : Hp := fun a => if a ∈ S then none else H a

mutual
inductive RO (g : Gd) (H Ho : Hp) : V → O → List Addr → Prop
  | d {v : V} {x : PyData} : Dp g.K Ho v x → RO g H Ho v (.d x) []
  | lst {a : Addr} {vs : List V} {os : List O} {F : List Addr} : H a = some (.lst vs) → ROs g H Ho vs os F → RO g H Ho (.ref a) (.lst os) (a :: F)
  | dK {a : Addr} {kvs : List (Key × V)} {kos : List (Key × O)} {F : List Addr} : H a = some (.dK kvs) → kvs.map (·.1) = kos.map (·.1) → ROs g H Ho (kvs.map (·.2)) (kos.map (·.2)) F → RO g H Ho (.ref a) (.dK kos) (a :: F)
  | dT {a : Addr} {kvs : List (List Key × V)} {kos : List (List Key × O)} {F : List Addr} : H a = some (.dT kvs) → kvs.map (·.1) = kos.map (·.1) → ROs g H Ho (kvs.map (·.2)) (kos.map (·.2)) F → RO g H Ho (.ref a) (.dT kos) (a :: F)
  | ins {a dx : Addr} {c : Nat} {kvs : List (Str × V)} {kos : List (Str × O)} {F : List Addr} : H a = some (.ins (g.cls c) dx kvs) → kvs.map (·.1) = kos.map (·.1) → ROs g H Ho (kvs.map (·.2)) (kos.map (·.2)) F → RO g H Ho (.ref a) (.ins c kos) (a :: F)
  | tf {a : Addr} {o : Obj} {vs : List V} {xs : List PyData} : Ho a = some (.frz o (.tup vs)) → o.dict = none → DpAll g.K Ho vs xs → RO g H Ho (.ref a) (.tf xs) []
  | rg {a : Addr} {lo hi : Int} : Ho a = some (.rng lo hi) → RO g H Ho (.ref a) (.rg lo hi) []
inductive ROs (g : Gd) (H Ho : Hp) : List V → List O → List Addr → Prop
  | nil : ROs g H Ho [] [] []
  | cons {v : V} {vs : List V} {o : O} {os : List O} {F F' : List Addr} : RO g H Ho v o F → ROs g H Ho vs os F' → ROs g H Ho (v :: vs) (o :: os) (F ++ F')
end

section
variable {g : Gd} {H H' Ho Ho' : Hp}

/-! ### heaps -/
theorem off_same {S : List Addr} (h : Same H H') : Same (off H S) (off H' S) := fun b o e => by
  unfold off at e ⊢
  split at e
  · cases e
  · rename_i hn
    rw [if_neg hn]
    exact h b o e
theorem off_sub {S S' : List Addr} (h : ∀ a ∈ S', a ∈ S) : Same (off H S) (off H S') := fun b o e => by
  unfold off at e ⊢
  split at e
  · cases e
  · rename_i hn
    rw [if_neg fun z => hn (h b z)]
    exact e
theorem off_le {S : List Addr} : Same (off H S) H := fun b o e => by
  unfold off at e
  split at e
  · cases e
  · exact e
theorem off_congr {S S' : List Addr} (h : ∀ a, a ∈ S ↔ a ∈ S') : off H S = off H S' := by
  funext b
  unfold off
  by_cases hb : b ∈ S
  · rw [if_pos hb, if_pos ((h b).mp hb)]
  · rw [if_neg hb, if_neg fun z => hb ((h b).mpr z)]
theorem off_upd {S : List Addr} {a : Addr} {o : HO} (h : a ∈ S) : off (upd H a o) S = off H S := by
  funext b
  unfold off
  by_cases hb : b ∈ S
  · rw [if_pos hb, if_pos hb]
  · rw [if_neg hb, if_neg hb, upd_ne]
    intro z
    exact hb (z ▸ h)
/-- a new object that is protected is no change of what is open -/
theorem off_new {S : List Addr} {a : Addr} {o : HO} (hn : H a = none) : off (upd H a o) (a :: S) = off H S := by
  funext b
  unfold off
  by_cases hb : b = a
  · subst hb
    rw [if_pos (List.mem_cons_self)]
    split
    · rfl
    · exact hn.symm
  · by_cases hs : b ∈ S
    · rw [if_pos (List.mem_cons_of_mem _ hs), if_pos hs]
    · rw [if_neg (by simp [hb, hs]), if_neg hs, upd_ne hb]
theorem same_upd {a : Addr} {o : HO} (hn : H a = none) : Same H (upd H a o) := fun b u e => by
  rw [upd_ne (ne_of_none e hn)]
  exact e
theorem Same.sqT {K : PySem.W.Frag} {a : Addr} {xs : List V} (e : Same H H') (h : SqT K H a xs) : SqT K H' a xs := by
  rcases h with (h | ⟨o, h⟩) | h
  · exact .inl (.inl (e _ _ h))
  · exact .inl (.inr ⟨o, e _ _ h⟩)
  · exact .inr h

mutual
theorem dp_mono {K : PySem.W.Frag} (e : Same H H') : ∀ {v : V} {x : PyData}, Dp K H v x → Dp K H' v x
  | _, _, .non => .non
  | _, _, .bl b => .bl b
  | _, _, .int i => .int i
  | _, _, .str x => .str x
  | _, _, .lst h r => .lst (e.seq h) (dpAll_mono e r)
  | _, _, .tup h r => .tup (Same.sqT e h) (dpAll_mono e r)
theorem dpAll_mono {K : PySem.W.Frag} (e : Same H H') : ∀ {vs : List V} {xs : List PyData}, DpAll K H vs xs → DpAll K H' vs xs
  | _, _, .nil => .nil
  | _, _, .cons h r => .cons (dp_mono e h) (dpAll_mono e r)
end
theorem DpAll.length {K : PySem.W.Frag} : ∀ {vs : List V} {xs : List PyData}, DpAll K H vs xs → vs.length = xs.length
  | _, _, .nil => rfl
  | _, _, .cons _ r => by rw [List.length_cons, List.length_cons, DpAll.length r]
theorem DpAll.get {K : PySem.W.Frag} : ∀ {vs : List V} {xs : List PyData} {i : Nat} {v : V}, DpAll K H vs xs → vs[i]? = some v → ∃ x, xs[i]? = some x ∧ Dp K H v x
  | _, _, _, _, .nil, h => by simp at h
  | _, _, 0, _, .cons h r, e => by
    simp at e
    subst e
    exact ⟨_, rfl, h⟩
  | _, _, i + 1, _, .cons h r, e => by
    obtain ⟨x, e1, h1⟩ := DpAll.get (i := i) r (by simpa using e)
    exact ⟨x, by simpa using e1, h1⟩
theorem DpAll.getR {K : PySem.W.Frag} : ∀ {vs : List V} {xs : List PyData} {i : Nat} {x : PyData}, DpAll K H vs xs → xs[i]? = some x → ∃ v, vs[i]? = some v ∧ Dp K H v x
  | _, _, _, _, .nil, h => by simp at h
  | _, _, 0, _, .cons h r, e => by
    simp at e
    subst e
    exact ⟨_, rfl, h⟩
  | _, _, i + 1, _, .cons h r, e => by
    obtain ⟨x, e1, h1⟩ := DpAll.getR (i := i) r (by simpa using e)
    exact ⟨x, by simpa using e1, h1⟩
theorem DpAll.append {K : PySem.W.Frag} : ∀ {vs ws : List V} {xs ys : List PyData}, DpAll K H vs xs → DpAll K H ws ys → DpAll K H (vs ++ ws) (xs ++ ys)
  | _, _, _, _, .nil, s => s
  | _, _, _, _, .cons h r, s => .cons h (DpAll.append r s)
theorem DpAll.ints {K : PySem.W.Frag} : ∀ {vs : List V} {ns : List Int}, DpAll K H vs (ns.map .int) → vs = ns.map .int
  | _, [], h => by cases h; rfl
  | _, n :: ns, h => by
    cases h with
    | cons h r =>
      cases h
      rw [DpAll.ints r]
      rfl
theorem dpAll_ints {K : PySem.W.Frag} : ∀ (ns : List Int), DpAll K H (ns.map .int) (ns.map .int)
  | [] => .nil
  | n :: ns => .cons (.int n) (dpAll_ints ns)

mutual
theorem ro_mono (e : Same Ho Ho') : ∀ {v : V} {o : O} {F : List Addr}, RO g H Ho v o F → (∀ a ∈ F, H' a = H a) → RO g H' Ho' v o F
  | _, _, _, .d h, _ => .d (dp_mono e h)
  | _, _, _, .lst h r, k => .lst ((k _ List.mem_cons_self).trans h) (ros_mono e r fun a m => k a (List.mem_cons_of_mem _ m))
  | _, _, _, .dK h l r, k => .dK ((k _ List.mem_cons_self).trans h) l (ros_mono e r fun a m => k a (List.mem_cons_of_mem _ m))
  | _, _, _, .dT h l r, k => .dT ((k _ List.mem_cons_self).trans h) l (ros_mono e r fun a m => k a (List.mem_cons_of_mem _ m))
  | _, _, _, .ins h l r, k => .ins ((k _ List.mem_cons_self).trans h) l (ros_mono e r fun a m => k a (List.mem_cons_of_mem _ m))
  | _, _, _, .tf h l r, k => .tf (e _ _ h) l (dpAll_mono e r)
  | _, _, _, .rg h, k => .rg (e _ _ h)
theorem ros_mono (e : Same Ho Ho') : ∀ {vs : List V} {os : List O} {F : List Addr}, ROs g H Ho vs os F → (∀ a ∈ F, H' a = H a) → ROs g H' Ho' vs os F
  | _, _, _, .nil, _ => .nil
  | _, _, _, .cons h r, k => .cons (ro_mono e h fun a m => k a (List.mem_append_left _ m)) (ros_mono e r fun a m => k a (List.mem_append_right _ m))
end
theorem ROs.length : ∀ {vs : List V} {os : List O} {F : List Addr}, ROs g H Ho vs os F → vs.length = os.length
  | _, _, _, .nil => rfl
  | _, _, _, .cons _ r => by rw [List.length_cons, List.length_cons, ROs.length r]

/-- all of them data -/
theorem ROs.dat : ∀ {vs : List V} {xs : List PyData} {F : List Addr}, ROs g H Ho vs (xs.map O.d) F → F = [] ∧ DpAll g.K Ho vs xs
  | _, [], _, h => by
    cases h
    exact ⟨rfl, .nil⟩
  | _, x :: xs, _, h => by
    cases h with
    | cons h r =>
      cases h with
      | d h =>
        obtain ⟨e, q⟩ := ROs.dat r
        subst e
        exact ⟨rfl, .cons h q⟩
theorem ros_dat : ∀ {vs : List V} {xs : List PyData}, DpAll g.K Ho vs xs → ROs g H Ho vs (xs.map O.d) []
  | _, _, .nil => .nil
  | _, _, .cons h r => ROs.cons (F := []) (.d h) (ros_dat r)

/-! ### owned data seen as data -/
mutual
def O.dat : O → Option PyData
  | .d x => some x
  | .lst xs => match datL xs with | some ys => some (.list ys) | none => none
  | .dK _ => none
  | .dT _ => none
  | .ins _ _ => none
  | .tf xs => some (.tuple xs)
  | .rg _ _ => none
def datL : List O → Option (List PyData)
  | [] => some []
  | x :: xs => match O.dat x with
    | some y => match datL xs with | some ys => some (y :: ys) | none => none
    | none => none
end
theorem datL_map (xs : List PyData) : datL (xs.map O.d) = some xs := by
  induction xs with
  | nil => rfl
  | cons x xs ih => rw [List.map_cons, datL, O.dat, ih]
mutual
/-- what is owned, where nobody owns it, is data -/
theorem ro_dat {K : PySem.W.Frag} (hk : g.K = K) (e : Same Ho Ho') : ∀ {v : V} {o : O} {F : List Addr} {x : PyData}, RO g H Ho v o F → (∀ a ∈ F, ∀ u, H a = some u → Ho' a = some u) → o.dat = some x → Dp K Ho' v x
  | _, _, _, _, .d h, _, q => by
    cases q
    rw [← hk]
    exact dp_mono e h
  | _, _, _, _, .lst (os := os) h r, k, q => by
    unfold O.dat at q
    cases q1 : datL os with
    | none => rw [q1] at q; cases q
    | some ys =>
      rw [q1] at q
      cases q
      exact .lst (.of (k _ List.mem_cons_self _ h)) (ros_dats hk e r (fun a m => k a (List.mem_cons_of_mem _ m)) q1)
  | _, _, _, _, .dK h l r, k, q => by cases q
  | _, _, _, _, .dT h l r, k, q => by cases q
  | _, _, _, _, .ins h l r, k, q => by cases q
  | _, _, _, _, .tf h l r, k, q => by
    cases q
    rw [← hk]
    exact .tup (.inl (.inr ⟨_, e _ _ h⟩)) (dpAll_mono e r)
  | _, _, _, _, .rg h, k, q => by cases q
theorem ros_dats {K : PySem.W.Frag} (hk : g.K = K) (e : Same Ho Ho') : ∀ {vs : List V} {os : List O} {F : List Addr} {xs : List PyData}, ROs g H Ho vs os F → (∀ a ∈ F, ∀ u, H a = some u → Ho' a = some u) → datL os = some xs → DpAll K Ho' vs xs
  | _, _, _, _, .nil, _, q => by
    cases q
    exact .nil
  | _, _, _, _, .cons (o := o) (os := os) h r, k, q => by
    unfold datL at q
    cases q1 : o.dat with
    | none => rw [q1] at q; cases q
    | some y =>
      rw [q1] at q
      cases q2 : datL os with
      | none => rw [q2] at q; cases q
      | some ys =>
        rw [q2] at q
        cases q
        exact .cons (ro_dat hk e h (fun a m => k a (List.mem_append_left _ m)) q1) (ros_dats hk e r (fun a m => k a (List.mem_append_right _ m)) q2)
end
end
end FL
end
section
set_option Elab.async false
set_option linter.all false
set_option maxRecDepth 100000
set_option autoImplicit false
namespace FL
open PySem L2

abbrev Env := List (Option O)
/-- a raised one: its class, its fields -/
structure Exn where
  cls : Nat
  fs : List (Str × PyData)
/-- what an expression comes to -/
inductive R (α : Type) where
  | ok (a : α) (ρ : Env)
  | exc (e : Exn) (ρ : Env)
  | bad
/-- what a statement comes to -/
inductive RS where
  | nx (ρ : Env)
  | rt (o : O) (ρ : Env)
  | bk (ρ : Env)
  | ct (ρ : Env)
  | exc (e : Exn) (ρ : Env)
  | bad
abbrev ME := Env → R O
abbrev MA := Env → R (List O)
abbrev MB := Env → R Bool
abbrev MS := Env → RS

inductive REnv (g : Gd) (H Ho : Hp) : St → Env → List Addr → Prop
  | nil : REnv g H Ho [] [] []
  | gap {x : Option V} {σ : St} {ρ : Env} {F : List Addr} : REnv g H Ho σ ρ F → REnv g H Ho (x :: σ) (none :: ρ) F
  | has {v : V} {o : O} {σ : St} {ρ : Env} {F F' : List Addr} : RO g H Ho v o F → REnv g H Ho σ ρ F' → REnv g H Ho (some v :: σ) (some o :: ρ) (F ++ F')

structure Rel (g : Gd) (H : Hp) (σ : St) (ρ : Env) (F hid : List Addr) : Prop where
  env : REnv g H (off H (F ++ hid)) σ ρ F
  nd : (F ++ hid).Nodup
  tr : ∀ a ∈ F ++ hid, H a ≠ none

/-- from a heap with protected S to one with protected S' -/
structure Ext (hid : List Addr) (H : Hp) (S : List Addr) (H' : Hp) (S' : List Addr) : Prop where
  op : Same (off H S) (off H' S')
  hd : ∀ a ∈ hid, H' a = H a

section
variable {g : Gd} {H H' H1 H2 Ho Ho' : Hp} {σ σ' : St} {ρ ρ' : Env} {F F' F1 F2 hid S S1 S2 S' : List Addr}
theorem Ext.refl : Ext hid H S H S := ⟨Same.refl _, fun _ _ => rfl⟩
theorem Ext.trans (a : Ext hid H S H1 S1) (b : Ext hid H1 S1 H2 S2) : Ext hid H S H2 S2 :=
  ⟨a.op.trans b.op, fun c m => (b.hd c m).trans (a.hd c m)⟩
theorem Ext.less {hid' : List Addr} (a : Ext hid H S H1 S1) (h : ∀ c ∈ hid', c ∈ hid) : Ext hid' H S H1 S1 := ⟨a.op, fun c m => a.hd c (h c m)⟩
theorem Ext.sub (h : ∀ a ∈ S', a ∈ S) : Ext hid H S H S' := ⟨off_sub h, fun _ _ => rfl⟩
/-- an object is made and left open -/
theorem Ext.upd {a : Addr} {o : HO} (hn : H a = none) (hh : ∀ c ∈ hid, H c ≠ none) : Ext hid H S (upd H a o) S :=
  ⟨off_same (same_upd hn), fun c m => upd_ne fun z => hh c m (z ▸ hn)⟩
/-- an object is made and protected -/
theorem Ext.new {a : Addr} {o : HO} (hn : H a = none) (hh : ∀ c ∈ hid, H c ≠ none) : Ext hid H S (L2.upd H a o) (a :: S) :=
  ⟨by rw [off_new hn]; exact Same.refl _, fun c m => upd_ne fun z => hh c m (z ▸ hn)⟩

theorem renv_mono (e : Same Ho Ho') : ∀ {σ : St} {ρ : Env} {F : List Addr}, REnv g H Ho σ ρ F → (∀ a ∈ F, H' a = H a) → REnv g H' Ho' σ ρ F
  | _, _, _, .nil, _ => .nil
  | _, _, _, .gap h, k => .gap (renv_mono e h k)
  | _, _, _, .has h r, k => .has (ro_mono e h fun a m => k a (List.mem_append_left _ m)) (renv_mono e r fun a m => k a (List.mem_append_right _ m))
theorem REnv.length : ∀ {σ : St} {ρ : Env} {F : List Addr}, REnv g H Ho σ ρ F → σ.length = ρ.length
  | _, _, _, .nil => rfl
  | _, _, _, .gap h => by rw [List.length_cons, List.length_cons, REnv.length h]
  | _, _, _, .has _ h => by rw [List.length_cons, List.length_cons, REnv.length h]

/-- the slot i looked at: what it owns (F1), what the others own (G) -/
theorem REnv.focus : ∀ {σ : St} {ρ : Env} {F : List Addr} {i : Nat} {o : O}, REnv g H Ho σ ρ F → ρ[i]? = some (some o) →
    ∃ v F1 G, σ[i]? = some (some v) ∧ F.Perm (F1 ++ G) ∧ RO g H Ho v o F1 ∧
      ∀ (H' Ho' : Hp), (∀ a ∈ G, H' a = H a) → Same Ho Ho' →
        (∃ F', F'.Perm G ∧ REnv g H' Ho' σ (ρ.set i none) F') ∧
        (∀ x, ∃ F', F'.Perm G ∧ REnv g H' Ho' (σ.set i x) (ρ.set i none) F') ∧
        ∀ v' o' F1', RO g H' Ho' v' o' F1' → ∃ F', F'.Perm (F1' ++ G) ∧ REnv g H' Ho' (σ.set i (some v')) (ρ.set i (some o')) F'
  | _, _, _, _, _, .nil, h => by simp at h
  | _, _, _, 0, _, .gap h, e => by simp at e
  | _, _, _, 0, o, .has (F := F1) (F' := G) h r, e => by
    simp at e
    subst e
    refine ⟨_, F1, G, rfl, List.Perm.refl _, h, fun H' Ho' k s => ⟨⟨G, List.Perm.refl _, .gap (renv_mono s r k)⟩, fun x => ⟨G, List.Perm.refl _, .gap (renv_mono s r k)⟩, fun v' o' F1' h' => ⟨_, List.Perm.refl _, .has h' (renv_mono s r k)⟩⟩⟩
  | _, _, _, i + 1, o, .gap h, e => by
    obtain ⟨v, F1, G, e1, p, q, k⟩ := REnv.focus (i := i) h (by simpa using e)
    refine ⟨v, F1, G, by simpa using e1, p, q, fun H' Ho' k1 s => ?_⟩
    obtain ⟨⟨F1', p1, r1⟩, k2, k3⟩ := k H' Ho' k1 s
    refine ⟨⟨F1', p1, .gap r1⟩, fun x => ?_, fun v' o' F1' h' => ?_⟩
    · obtain ⟨F', p2, r2⟩ := k2 x
      exact ⟨F', p2, .gap r2⟩
    · obtain ⟨F', p2, r2⟩ := k3 v' o' F1' h'
      exact ⟨F', p2, .gap r2⟩
  | _, _, _, i + 1, o, .has (F := F0) (F' := FR) h r, e => by
    obtain ⟨v, F1, G, e1, p, q, k⟩ := REnv.focus (i := i) r (by simpa using e)
    refine ⟨v, F1, F0 ++ G, by simpa using e1, ?_, q, fun H' Ho' k1 s => ?_⟩
    · refine (List.Perm.append_left F0 p).trans ?_
      rw [← List.append_assoc, ← List.append_assoc]
      exact List.Perm.append_right G List.perm_append_comm
    · obtain ⟨⟨F1', p1, r1⟩, k2, k3⟩ := k H' Ho' (fun a m => k1 a (List.mem_append_right _ m)) s
      have h' := ro_mono (H' := H') s h fun a m => k1 a (List.mem_append_left _ m)
      refine ⟨⟨F0 ++ F1', List.Perm.append_left F0 p1, .has h' r1⟩, fun x => ?_, fun v' o' F1' h'' => ?_⟩
      · obtain ⟨F', p2, r2⟩ := k2 x
        exact ⟨F0 ++ F', List.Perm.append_left F0 p2, .has h' r2⟩
      · obtain ⟨F', p2, r2⟩ := k3 v' o' F1' h''
        refine ⟨F0 ++ F', ?_, .has h' r2⟩
        refine (List.Perm.append_left F0 p2).trans ?_
        rw [← List.append_assoc, ← List.append_assoc]
        exact List.Perm.append_right G List.perm_append_comm

/-- any slot is set: what was owned there is nobody's -/
theorem REnv.put : ∀ {σ : St} {ρ : Env} {F : List Addr} (i : Nat), REnv g H Ho σ ρ F →
    (∃ F', (∀ a ∈ F', a ∈ F) ∧ (F.Nodup → F'.Nodup) ∧ ∀ x, REnv g H Ho (σ.set i x) (ρ.set i none) F') ∧
    ∃ G, (∀ a ∈ G, a ∈ F) ∧ (F.Nodup → G.Nodup) ∧ (∀ x, REnv g H Ho (σ.set i x) (ρ.set i none) G) ∧ ∀ v' o' F1', i < σ.length → RO g H Ho v' o' F1' → ∃ F', F'.Perm (F1' ++ G) ∧ REnv g H Ho (σ.set i (some v')) (ρ.set i (some o')) F'
  | _, _, _, _, .nil => ⟨⟨[], fun _ m => m, fun h => h, fun _ => .nil⟩, [], fun _ m => m, fun h => h, fun _ => .nil, fun _ _ _ h => by simp at h⟩
  | _, _, _, 0, .gap h => ⟨⟨_, fun _ m => m, fun h => h, fun _ => .gap h⟩, _, fun _ m => m, fun h => h, fun _ => .gap h, fun v' o' F1' _ h' => ⟨_, List.Perm.refl _, .has h' h⟩⟩
  | _, _, _, 0, .has (F := F0) (F' := FR) h r =>
    have nd : (F0 ++ FR).Nodup → FR.Nodup := fun h => (List.nodup_append.mp h).2.1
    ⟨⟨FR, fun _ m => List.mem_append_right _ m, nd, fun _ => .gap r⟩, FR, fun _ m => List.mem_append_right _ m, nd, fun _ => .gap r, fun v' o' F1' _ h' => ⟨_, List.Perm.refl _, .has h' r⟩⟩
  | _, _, _, i + 1, .gap h => by
    obtain ⟨⟨F1, a1, a2, a3⟩, G, b1, b2, b2', b3⟩ := REnv.put i h
    refine ⟨⟨F1, a1, a2, fun x => .gap (a3 x)⟩, G, b1, b2, fun x => .gap (b2' x), fun v' o' F1' hl h' => ?_⟩
    obtain ⟨F', p, r⟩ := b3 v' o' F1' (by simpa using hl) h'
    exact ⟨F', p, .gap r⟩
  | _, _, _, i + 1, .has (F := F0) (F' := FR) h r => by
    obtain ⟨⟨F1, a1, a2, a3⟩, G, b1, b2, b2', b3⟩ := REnv.put i r
    have sub : ∀ {X : List Addr}, (∀ a ∈ X, a ∈ FR) → ∀ a ∈ F0 ++ X, a ∈ F0 ++ FR := fun {X} hX a m => (List.mem_append.mp m).elim (List.mem_append_left _) fun z => List.mem_append_right _ (hX a z)
    have nd : ∀ {X : List Addr}, (∀ a ∈ X, a ∈ FR) → (FR.Nodup → X.Nodup) → (F0 ++ FR).Nodup → (F0 ++ X).Nodup := fun {X} hX hn h => by
      obtain ⟨n1, n2, n3⟩ := List.nodup_append.mp h
      exact List.nodup_append.mpr ⟨n1, hn n2, fun a m b m' => n3 a m b (hX b m')⟩
    refine ⟨⟨F0 ++ F1, sub a1, nd a1 a2, fun x => .has h (a3 x)⟩, F0 ++ G, sub b1, nd b1 b2, fun x => .has h (b2' x), fun v' o' F1' hl h' => ?_⟩
    obtain ⟨F', p, r'⟩ := b3 v' o' F1' (by simpa using hl) h'
    refine ⟨F0 ++ F', ?_, .has h r'⟩
    refine (List.Perm.append_left F0 p).trans ?_
    rw [← List.append_assoc, ← List.append_assoc]
    exact List.Perm.append_right G List.perm_append_comm

theorem Rel.hidT (r : Rel g H σ ρ F hid) : ∀ c ∈ hid, H c ≠ none := fun c m => r.tr c (List.mem_append_right _ m)
theorem Rel.fresh (r : Rel g H σ ρ F hid) {p : Addr} (hn : H p = none) : p ∉ F ++ hid := fun m => r.tr p m hn
/-- along a heap that has grown, nothing of the protected being changed -/
theorem Rel.same (r : Rel g H σ ρ F hid) (s : Same H H') : Rel g H' σ ρ F hid := by
  have k : ∀ a ∈ F ++ hid, H' a = H a := fun a m => by
    cases e : H a with
    | none => exact absurd e (r.tr a m)
    | some o => exact s a o e
  refine ⟨renv_mono (off_same s) r.env fun a m => k a (List.mem_append_left _ m), r.nd, fun a m => ?_⟩
  rw [k a m]
  exact r.tr a m
/-- permuted footprints -/
theorem Rel.perm {hid' : List Addr} (r : Rel g H σ ρ F hid) (p : hid.Perm hid') : Rel g H σ ρ F hid' := by
  have pp : (F ++ hid).Perm (F ++ hid') := List.Perm.append_left F p
  refine ⟨?_, pp.nodup_iff.mp r.nd, fun a m => r.tr a (pp.mem_iff.mpr m)⟩
  rw [off_congr (S' := F ++ hid) fun a => pp.mem_iff.symm]
  exact r.env
/-- fewer hidden -/
theorem Rel.unhide {hid' : List Addr} (r : Rel g H σ ρ F hid) (h : hid'.Sublist hid) : Rel g H σ ρ F hid' := by
  have sl : (F ++ hid').Sublist (F ++ hid) := List.Sublist.append_left h F
  exact ⟨renv_mono (off_sub fun a m => sl.subset m) r.env fun _ _ => rfl, sl.nodup r.nd, fun a m => r.tr a (sl.subset m)⟩
theorem Rel.congrF (r : REnv g H (off H S) σ ρ F) (nd : S.Nodup) (tr : ∀ a ∈ S, H a ≠ none) (p : S.Perm (F ++ hid)) : Rel g H σ ρ F hid := by
  refine ⟨?_, p.nodup_iff.mp nd, fun a m => tr a (p.mem_iff.mpr m)⟩
  rw [off_congr (S' := S) fun a => p.mem_iff.symm]
  exact r
end
end FL
end
section
set_option Elab.async false
set_option linter.all false
set_option maxRecDepth 100000
set_option autoImplicit false
namespace FL
open PySem L2

/-- what an expression yields: a thing, or the thing in a slot -/
inductive Rv where
  | o (x : O)
  | s (i : Nat)
abbrev M := Env → R Rv
abbrev Ms := Env → R (List Rv)
abbrev Mb := Env → R Bool

def R.bind {α γ : Type} (m : R α) (k : α → Env → R γ) : R γ := match m with
  | .ok a ρ => k a ρ
  | .exc e ρ => .exc e ρ
  | .bad => .bad
/-- data -/
abbrev R.dat (x : PyData) (ρ : Env) : R Rv := .ok (.o (.d x)) ρ

/-- an exception of the program -/
structure XR (g : Gd) (H Ho : Hp) (e : Exn) (cls : Value) (dd : Option Addr) : Prop where
  cl : cls = .ref (g.cls e.cls)
  fs : ∃ d kvs, dd = some d ∧ H d = some (.xd kvs) ∧ kvs.map (·.1) = e.fs.map (·.1) ∧ DpAll g.K Ho (kvs.map (·.2)) (e.fs.map (·.2))
abbrev XW := Value → Option Addr → St → Hp → Prop

section
variable (g : Gd) (W : XW)
def Post {α β : Type} (RA : St → Hp → Hp → β → α → List Addr → Prop) (σ : St) (hid : List Addr) (H : Hp) (F : List Addr) (Q : β → Hp → Prop) : R α → Prop
  | .ok o ρ' => ∀ H' F' F1 v, Rel g H' σ ρ' F' (F1 ++ hid) → Ext hid H (F ++ hid) H' (F' ++ (F1 ++ hid)) → RA σ H' (off H' (F' ++ (F1 ++ hid))) v o F1 → Q v H'
  | .exc e ρ' => ∀ H' F' cls dd, Rel g H' σ ρ' F' hid → Ext hid H (F ++ hid) H' (F' ++ hid) → XR g H' (off H' (F' ++ hid)) e cls dd → W cls dd σ H'
  | .bad => False
def sem {α β : Type} (RA : St → Hp → Hp → β → α → List Addr → Prop) (m : Env → R α) : St → Hp → (β → Hp → Prop) → Prop :=
  fun σ H Q => ∃ ρ F hid, Rel g H σ ρ F hid ∧ Post g W RA σ hid H F Q (m ρ)
def RV : St → Hp → Hp → V → Rv → List Addr → Prop
  | _, H, Ho, v, .o x, F => RO g H Ho v x F
  | σ, _, _, v, .s i, F => F = [] ∧ σ[i]? = some (some v)
def RVs : St → Hp → Hp → List V → List Rv → List Addr → Prop
  | _, _, _, [], [], F => F = []
  | σ, H, Ho, v :: vs, x :: xs, F => ∃ F1 F2, F = F1 ++ F2 ∧ RV g σ H Ho v x F1 ∧ RVs σ H Ho vs xs F2
  | _, _, _, _, _, _ => False
def RB : St → Hp → Hp → Bool → Bool → List Addr → Prop := fun _ _ _ b b' F => b = b' ∧ F = []
/-- an expression, an argument list, a test -/
abbrev sE (m : M) : TE := sem g W (RV g) m
abbrev sA (m : Ms) : TA := sem g W (RVs g) m
abbrev sT (m : Mb) : TT := sem g W RB m
end

section
variable {g : Gd} {W : XW} {α β γ δ : Type} {RA : St → Hp → Hp → β → α → List Addr → Prop} {RC : St → Hp → Hp → δ → γ → List Addr → Prop} {σ : St} {ρ ρ' : Env} {H H0 H' Ho Ho' : Hp} {F F0 G hid F1 S S' : List Addr}
theorem xr_mono {e : Exn} {cls : Value} {dd : Option Addr} (x : XR g H Ho e cls dd) (s : Same Ho Ho') : XR g H Ho' e cls dd := by
  obtain ⟨c, d, kvs, e1, e2, e3, e4⟩ := x
  exact ⟨c, d, kvs, e1, e2, e3, dpAll_mono s e4⟩
/-- one part of it, then the rest -/
theorem Post.bind {m : R α} {k : α → Env → R γ} {Q : δ → Hp → Prop} {Q1 : β → Hp → Prop} (x : Ext hid H (F ++ hid) H0 (F0 ++ (G ++ hid))) (h : Post g W RC σ hid H F Q (m.bind k))
    (hk : ∀ o ρ' H' F' F1 v, Rel g H' σ ρ' F' (F1 ++ (G ++ hid)) → Ext (G ++ hid) H0 (F0 ++ (G ++ hid)) H' (F' ++ (F1 ++ (G ++ hid))) → RA σ H' (off H' (F' ++ (F1 ++ (G ++ hid)))) v o F1 → Post g W RC σ hid H F Q (k o ρ') → Q1 v H') :
    Post g W RA σ (G ++ hid) H0 F0 Q1 m := by
  cases m with
  | ok o ρ' => exact fun H' F' F1 v r' x' ra => hk o ρ' H' F' F1 v r' x' ra h
  | exc e ρ' =>
    refine fun H' F' cls dd r' x' xr => ?_
    have sub : ∀ a ∈ F' ++ hid, a ∈ F' ++ (G ++ hid) := fun a m => (List.mem_append.mp m).elim (List.mem_append_left _) fun z => List.mem_append_right _ (List.mem_append_right _ z)
    have h' : Post g W RC σ hid H F Q (.exc e ρ' : R γ) := h
    exact h' H' F' cls dd (r'.unhide (List.sublist_append_right G hid)) ((x.trans (x'.less fun c m => List.mem_append_right _ m)).trans (Ext.sub sub)) (xr_mono xr (off_sub sub))
  | bad => exact h
theorem PE.imp {X : Cx} {e : Expr} {t t' : TE} (h : PE X e t) (i : ∀ σ H Q, t' σ H Q → t σ H Q) : PE X e t' := ⟨fun pins s σ H Q I hq => h.run pins s σ H Q I (i σ H Q hq)⟩
theorem PT.imp {X : Cx} {e : Expr} {t t' : TT} (h : PT X e t) (i : ∀ σ H Q, t' σ H Q → t σ H Q) : PT X e t' := ⟨fun pins s σ H Q I hq => h.run pins s σ H Q I (i σ H Q hq)⟩
theorem PW.imp {X : Cx} {e : Expr} {t t' : TT} (h : PW X e t) (i : ∀ σ H Q, t' σ H Q → t σ H Q) : PW X e t' := ⟨fun whole pins s σ H Q I hq => h.run whole pins s σ H Q I (i σ H Q hq)⟩
theorem PA.imp {X : Cx} {es : List Expr} {t t' : TA} (h : PA X es t) (i : ∀ σ H Q, t' σ H Q → t σ H Q) : PA X es t' := ⟨fun pos pins s σ H Q I hq => h.run pos pins s σ H Q I (i σ H Q hq)⟩
theorem PS.imp {X : Cx} {st : Stmt} {t t' : TS} (h : PS X st t) (i : ∀ D σ H, t' D σ H → t D σ H) : PS X st t' := ⟨fun pins s σ H D I hq => h.run pins s σ H D I (i D σ H hq)⟩
theorem PSs.imp {X : Cx} {st : List Stmt} {t t' : TS} (h : PSs X st t) (i : ∀ D σ H, t' D σ H → t D σ H) : PSs X st t' := ⟨fun pins s σ H D I hq => h.run pins s σ H D I (i D σ H hq)⟩

/-- the end of an expression: what is owned by parts that are gone is open -/
theorem Post.fin {o : α} {v : β} {Q : β → Hp → Prop} {S0 : List Addr} (h : Post g W RA σ hid H F Q (.ok o ρ')) (r : Rel g H' σ ρ' F0 (S0 ++ hid)) (x : Ext hid H (F ++ hid) H' (F0 ++ (S0 ++ hid))) (hs : F1.Sublist S0)
    (ra : RA σ H' (off H' (F0 ++ (F1 ++ hid))) v o F1) : Q v H' := by
  have sl : (F1 ++ hid).Sublist (S0 ++ hid) := List.Sublist.append_right hs hid
  exact h H' F0 F1 v (r.unhide sl) (x.trans (Ext.sub fun a m => (List.Sublist.append_left sl F0).subset m)) ra
theorem Post.finD {x : PyData} {v : V} {Q : V → Hp → Prop} {S0 : List Addr} (h : Post g W (RV g) σ hid H F Q (.ok (.o (.d x)) ρ')) (r : Rel g H' σ ρ' F0 (S0 ++ hid)) (e : Ext hid H (F ++ hid) H' (F0 ++ (S0 ++ hid)))
    (d : Dp g.K (off H' (F0 ++ (S0 ++ hid))) v x) : Q v H' :=
  Post.fin (F1 := []) h r e (List.nil_sublist _) (RO.d (dp_mono (off_sub fun a m => (List.mem_append.mp m).elim (List.mem_append_left _) fun z => List.mem_append_right _ (List.mem_append_right _ z)) d))

/-! ### views -/
def allD : List O → Option (List PyData)
  | [] => some []
  | .d x :: r => match allD r with | some xs => some (x :: xs) | none => none
  | _ :: _ => none
def O.view : O → Option PyData
  | .d x => some x
  | .lst os => match allD os with | some xs => some (.list xs) | none => none
  | .tf xs => some (.tuple xs)
  | _ => none
/-- what may be read of it now -/
def Rv.view (ρ : Env) : Rv → Option PyData
  | .o x => x.view
  | .s i => match ρ[i]? with | some (some x) => x.view | _ => none
theorem allD_map (xs : List PyData) : allD (xs.map O.d) = some xs := by
  induction xs with
  | nil => rfl
  | cons x xs ih => rw [List.map_cons, allD, ih]
theorem allD_eq : ∀ {os : List O} {xs : List PyData}, allD os = some xs → os = xs.map O.d
  | [], _, h => by cases h; rfl
  | .d x :: r, _, h => by
    unfold allD at h
    cases e : allD r with
    | none => rw [e] at h; cases h
    | some ys =>
      rw [e] at h
      cases h
      rw [allD_eq e]
      rfl
  | .lst _ :: _, _, h => by cases h
  | .dK _ :: _, _, h => by cases h
  | .dT _ :: _, _, h => by cases h
  | .ins _ _ :: _, _, h => by cases h
  | .tf _ :: _, _, h => by cases h
  | .rg _ _ :: _, _, h => by cases h
/-- v may be read as x: data, or an owned list of data -/
def VW (K : PySem.W.Frag) (H Ho : Hp) (v : V) (x : PyData) : Prop :=
  Dp K Ho v x ∨ ∃ a vs xs, v = .ref a ∧ x = .list xs ∧ H a = some (.lst vs) ∧ DpAll K Ho vs xs
theorem vw_of {K : PySem.W.Frag} (hk : g.K = K) {v : V} {o : O} {x : PyData} (h : RO g H Ho v o F) (e : o.view = some x) : VW K H Ho v x := by
  subst hk
  cases h with
  | d h =>
    cases e
    exact .inl h
  | lst h r =>
    rename_i os _
    have e : (match allD os with | some xs => some (PyData.list xs) | none => none) = some x := e
    cases q : allD os with
    | none => rw [q] at e; cases e
    | some xs =>
      rw [q] at e
      cases e
      rw [allD_eq q] at r
      exact .inr ⟨_, _, xs, rfl, rfl, h, (ROs.dat r).2⟩
  | dK _ _ _ => cases e
  | dT _ _ _ => cases e
  | ins _ _ _ => cases e
  | tf h1 h2 h3 =>
    cases e
    exact .inl (.tup (.inl (.inr ⟨_, h1⟩)) h3)
  | rg _ => cases e
theorem VW.full {K : PySem.W.Frag} {v : V} {x : PyData} (h : VW K H Ho v x) (s : Same Ho H) : Dp K H v x := by
  rcases h with h | ⟨a, vs, xs, rfl, rfl, e, h⟩
  · exact dp_mono s h
  · exact .lst (.of e) (dpAll_mono s h)
theorem VW.list {K : PySem.W.Frag} {v : V} {xs : List PyData} (h : VW K H Ho v (.list xs)) (s : Same Ho H) : ∃ a vs, v = .ref a ∧ SqL K H a vs ∧ DpAll K Ho vs xs := by
  rcases h with h | ⟨a, vs, ys, rfl, e1, e, h⟩
  · cases h with
    | lst hs ha => exact ⟨_, _, rfl, Same.seq s hs, ha⟩
  · cases e1
    exact ⟨a, vs, rfl, .of e, h⟩
theorem VW.tup {K : PySem.W.Frag} {v : V} {xs : List PyData} (h : VW K H Ho v (.tuple xs)) (s : Same Ho H) : ∃ a vs, v = .ref a ∧ SqT K H a vs ∧ SqT K Ho a vs ∧ DpAll K Ho vs xs := by
  rcases h with h | ⟨a, vs, ys, rfl, e1, e, h⟩
  · cases h with
    | tup hs ha => exact ⟨_, _, rfl, Same.sqT s hs, hs, ha⟩
  · cases e1
theorem VW.int {K : PySem.W.Frag} {v : V} {i : Int} (h : VW K H Ho v (.int i)) : v = .int i := by
  rcases h with h | ⟨a, vs, ys, rfl, e1, e, h⟩
  · cases h; rfl
  · cases e1
theorem VW.bl {K : PySem.W.Frag} {v : V} {b : Bool} (h : VW K H Ho v (.bool b)) : v = .bl b := by
  rcases h with h | ⟨a, vs, ys, rfl, e1, e, h⟩
  · cases h; rfl
  · cases e1
theorem VW.str {K : PySem.W.Frag} {v : V} {b : Str} (h : VW K H Ho v (.str b)) : v = .str b := by
  rcases h with h | ⟨a, vs, ys, rfl, e1, e, h⟩
  · cases h; rfl
  · cases e1
theorem VW.non {K : PySem.W.Frag} {v : V} (h : VW K H Ho v .none) : v = .non := by
  rcases h with h | ⟨a, vs, ys, rfl, e1, e, h⟩
  · cases h; rfl
  · cases e1

/-- the view of a result, at a later state -/
theorem rv_view {σ : St} {v : V} {x : Rv} {y : PyData} {F2 G1 T : List Addr} (r1 : RV g σ H (off H S) v x G1) (o : Same (off H S) (off H' (F2 ++ T))) (k : ∀ a ∈ G1, H' a = H a) (r2 : Rel g H' σ ρ F2 T) (e : x.view ρ = some y) : VW g.K H' (off H' (F2 ++ T)) v y := by
  cases x with
  | o x => exact vw_of rfl (ro_mono o r1 k) e
  | s i =>
    obtain ⟨_, e1⟩ := r1
    have e : (match ρ[i]? with | some (some x) => x.view | _ => none) = some y := e
    split at e
    · rename_i x hx
      obtain ⟨v', F1, G, e2, _, h, _⟩ := r2.env.focus hx
      rw [e1] at e2
      cases e2
      exact vw_of rfl h e
    · cases e

/-! ### operators upon views -/
/-- where an operation ends: nothing new, or one new object -/
def EndD (K : PySem.W.Frag) (H Ho : Hp) (Q : V → Hp → Prop) (z : PyData) : Prop :=
  (∀ u, Dp K Ho u z → Q u H) ∧ ∀ p o u, H p = none → Dp K (upd Ho p o) u z → Q u (upd H p o)
def Op2 (K : PySem.W.Frag) (r : R2) (f : PyData → PyData → Option PyData) : Prop :=
  ∀ v w H Ho Q x y z, Same Ho H → VW K H Ho v x → VW K H Ho w y → f x y = some z → EndD K H Ho Q z → r v w H Q
def Op1 (K : PySem.W.Frag) (r : V → Hp → VK → Prop) (f : PyData → Option PyData) : Prop :=
  ∀ v H Ho Q x z, Same Ho H → VW K H Ho v x → f x = some z → EndD K H Ho Q z → r v H Q

def optR (z : Option PyData) (ρ : Env) : R Rv := match z with | some z => .ok (.o (.d z)) ρ | none => .bad
def view2 (f : PyData → PyData → Option PyData) (x y : Rv) (ρ : Env) : Option PyData := match x.view ρ with
  | some a => match y.view ρ with | some b => f a b | none => none
  | none => none
def view1 (f : PyData → Option PyData) (x : Rv) (ρ : Env) : Option PyData := match x.view ρ with
  | some a => f a
  | none => none
def mOp (f : PyData → PyData → Option PyData) (ma mb : M) : M := fun ρ => (ma ρ).bind fun x ρ1 => (mb ρ1).bind fun y ρ2 => optR (view2 f x y ρ2) ρ2
def mUn (f : PyData → Option PyData) (ma : M) : M := fun ρ => (ma ρ).bind fun x ρ1 => optR (view1 f x ρ1) ρ1

/-- an operation's end -/
theorem Post.endD {z : PyData} {Q : V → Hp → Prop} {S0 : List Addr} (h : Post g W (RV g) σ hid H F Q (.ok (.o (.d z)) ρ')) (r : Rel g H' σ ρ' F0 (S0 ++ hid)) (e : Ext hid H (F ++ hid) H' (F0 ++ (S0 ++ hid))) :
    EndD g.K H' (off H' (F0 ++ (S0 ++ hid))) Q z := by
  refine ⟨fun u d => h.finD r e d, fun p o u hn d => ?_⟩
  have r' := r.same (same_upd (o := o) hn)
  have np := r.fresh hn
  have eo : upd (off H' (F0 ++ (S0 ++ hid))) p o = off (upd H' p o) (F0 ++ (S0 ++ hid)) := by
    funext b
    unfold off
    by_cases hb : b = p
    · subst hb
      rw [upd_same, if_neg np, upd_same]
    · rw [upd_ne hb, upd_ne hb]
  exact h.finD r' (e.trans (Ext.upd hn fun c m => r.hidT c (List.mem_append_right _ m))) (eo ▸ d)
/-- two operands -/
theorem two {ta tb : TE} {r : R2} {f : PyData → PyData → Option PyData} {ma mb : M} (op : Op2 g.K r f) {σ : St} {H : Hp} {Q : V → Hp → Prop} (h : sE g W (mOp f ma mb) σ H Q) :
    sE g W ma σ H fun x H1 => sE g W mb σ H1 fun y H2 => r x y H2 Q := by
  obtain ⟨ρ, F, hid, r0, p⟩ := h
  refine ⟨ρ, F, hid, r0, Post.bind (G := []) Ext.refl p fun x ρ1 H1 F1 G1 v r1 x1 v1 p1 => ?_⟩
  refine ⟨ρ1, F1, G1 ++ hid, r1, Post.bind (G := G1) x1 p1 fun y ρ2 H2 F2 G2 w r2 x2 v2 p2 => ?_⟩
  unfold view2 at p2
  cases e1 : x.view ρ2 with
  | none => rw [e1] at p2; exact p2.elim
  | some a =>
    cases e2 : y.view ρ2 with
    | none => rw [e1, e2] at p2; exact p2.elim
    | some b =>
      rw [e1, e2] at p2
      cases e3 : f a b with
      | none => simp only [e3] at p2; exact p2.elim
      | some z =>
        simp only [e3] at p2
        have o1 := rv_view v1 x2.op (fun c m => x2.hd c (List.mem_append_left _ m)) r2 e1
        have o2 := rv_view v2 (Same.refl _) (fun _ _ => rfl) r2 e2
        have r2' : Rel g H2 σ ρ2 F2 ((G2 ++ G1) ++ hid) := by rw [List.append_assoc]; exact r2
        have xx : Ext hid H (F ++ hid) H2 (F2 ++ ((G2 ++ G1) ++ hid)) := by
          rw [List.append_assoc]
          exact Ext.trans x1 (x2.less fun c m => List.mem_append_right _ m)
        refine op v w H2 _ Q a b z off_le o1 o2 e3 ?_
        have en := Post.endD p2 r2' xx
        rw [List.append_assoc] at en
        exact en
theorem one {ta : TE} {r : V → Hp → VK → Prop} {f : PyData → Option PyData} {ma : M} (op : Op1 g.K r f) {σ : St} {H : Hp} {Q : V → Hp → Prop} (h : sE g W (mUn f ma) σ H Q) :
    sE g W ma σ H fun x H1 => r x H1 Q := by
  obtain ⟨ρ, F, hid, r0, p⟩ := h
  refine ⟨ρ, F, hid, r0, Post.bind (G := []) Ext.refl p fun x ρ1 H1 F1 G1 v r1 x1 v1 p1 => ?_⟩
  unfold view1 at p1
  cases e1 : x.view ρ1 with
  | none => rw [e1] at p1; exact p1.elim
  | some a =>
    rw [e1] at p1
    cases e3 : f a with
    | none => simp only [e3] at p1; exact p1.elim
    | some z =>
      simp only [e3] at p1
      have o1 := rv_view v1 (Same.refl _) (fun _ _ => rfl) r1 e1
      exact op v H1 _ Q a z off_le o1 e3 (Post.endD p1 r1 x1)
end

/-! ### expressions -/
section
variable {X : Cx} {g : Gd} {W : XW}
def mC (x : PyData) : M := fun ρ => .ok (.o (.d x)) ρ
/-- a name: data is its value; what is owned is told by its slot -/
def mVar (i : Nat) : M := fun ρ => match ρ[i]? with
  | some (some (.d x)) => .ok (.o (.d x)) ρ
  | some (some (.tf x)) => .ok (.o (.tf x)) ρ
  | some (some (.rg x y)) => .ok (.o (.rg x y)) ρ
  | some (some _) => .ok (.s i) ρ
  | _ => .bad
theorem sE_data {x : PyData} {v : V} (hd : ∀ H, Dp g.K H v x) {σ : St} {H : Hp} {Q : VK} (h : sE g W (mC x) σ H Q) : tC v σ H Q := by
  obtain ⟨ρ, F, hid, r, p⟩ := h
  exact Post.finD (S0 := []) p r Ext.refl (hd _)
theorem fe_int {i j pos} : PE X (.Constant (.int i) j pos) (sE g W (mC (.int i))) := PE.imp pe_int fun _ _ _ h => sE_data (fun _ => .int i) h
theorem fe_bl {b j pos} : PE X (.Constant (.bool b) j pos) (sE g W (mC (.bool b))) := PE.imp pe_bl fun _ _ _ h => sE_data (fun _ => .bl b) h
theorem fe_non {j pos} : PE X (.Constant .none j pos) (sE g W (mC .none)) := PE.imp pe_non fun _ _ _ h => sE_data (fun _ => .non) h
theorem fe_str {x j pos} : PE X (.Constant (.str x) j pos) (sE g W (mC (.str x))) := PE.imp pe_str fun _ _ _ h => sE_data (fun _ => .str x) h
theorem sE_var {i : Nat} {σ : St} {H : Hp} {Q : VK} (h : sE g W (mVar i) σ H Q) : tVar i σ H Q := by
  obtain ⟨ρ, F, hid, r, p⟩ := h
  unfold mVar at p
  split at p
  · rename_i x hx
    obtain ⟨v, F1, G, e1, pm, ro, _⟩ := r.env.focus hx
    cases ro with
    | d hd => exact ⟨v, e1, Post.finD (S0 := []) p r Ext.refl hd⟩
  · rename_i x hx
    obtain ⟨v, F1, G, e1, pm, ro, _⟩ := r.env.focus hx
    cases ro with
    | tf h1 h2 h3 => exact ⟨_, e1, Post.fin (S0 := []) (F1 := []) p r Ext.refl (List.Sublist.refl _) (.tf h1 h2 h3)⟩
  · rename_i x y hx
    obtain ⟨v, F1, G, e1, pm, ro, _⟩ := r.env.focus hx
    cases ro with
    | rg h1 => exact ⟨_, e1, Post.fin (S0 := []) (F1 := []) p r Ext.refl (List.Sublist.refl _) (.rg h1)⟩
  · rename_i x hx
    obtain ⟨v, F1, G, e1, pm, ro, _⟩ := r.env.focus hx
    exact ⟨v, e1, Post.fin (S0 := []) (F1 := []) p r Ext.refl (List.Sublist.refl _) ⟨rfl, e1⟩⟩
  · exact p.elim
theorem fe_var (i : Nat) {x : Str} {pos : Pos} (hN : X.N[i]? = some x := by rfl) (hv : Vis X.env.scope x := by first | exact Or.inl rfl | exact Or.inr (Or.inl rfl) | exact Or.inr (Or.inr rfl)) (hd : (x == ("__debug__" : Str)) = false := by decide)
    (hcd : (x == ("__classdict__" : Str)) = false := by decide) : PE X (.Name x pos) (sE g W (mVar i)) := PE.imp (pe_var hN hv hd hcd) fun _ _ _ h => sE_var h
theorem fe_op {a b : Expr} {op : Operator} {r : R2} {f : PyData → PyData → Option PyData} {ma mb : M} {pos : Pos} (ho : OpR X (binaryOp op) r) (hf : Op2 g.K r f) (ha : PE X a (sE g W ma)) (hb : PE X b (sE g W mb)) :
    PE X (.BinOp a op b pos) (sE g W (mOp f ma mb)) := PE.imp (pe_op ho ha hb) fun _ _ _ h => two (ta := sE g W ma) (tb := sE g W mb) hf h
theorem fe_un {a : Expr} {op : UnaryOp} {r : V → Hp → VK → Prop} {f : PyData → Option PyData} {ma : M} {pos : Pos} (ho : UnR X (unaryOp op) r) (hf : Op1 g.K r f) (ha : PE X a (sE g W ma)) :
    PE X (.UnaryOp op a pos) (sE g W (mUn f ma)) := PE.imp (pe_un ho ha) fun _ _ _ h => one (ta := sE g W ma) hf h
theorem fe_cmp {a b : Expr} {op : CmpOp} {r : R2} {f : PyData → PyData → Option PyData} {ma mb : M} {pos : Pos} (ho : OpR X (compareOp op) r) (hf : Op2 g.K r f) (hm : behindInMarks op b = false) (ha : PE X a (sE g W ma)) (hb : PE X b (sE g W mb)) :
    PE X (.Compare a [op] [b] pos) (sE g W (mOp f ma mb)) := PE.imp (pe_cmpR ho ha hb hm) fun _ _ _ h => two (ta := sE g W ma) (tb := sE g W mb) hf h
end
end FL
end
section
set_option Elab.async false
set_option linter.all false
set_option maxRecDepth 100000
set_option autoImplicit false
namespace FL
open PySem L2 PyProof.Rows

/-! ### list + list, any two that are read -/
def rCatL (K : PySem.W.Frag) : R2 := fun x y H Q => ∃ l b xs zs, x = .ref l ∧ y = .ref b ∧ SqL K H l xs ∧ SqL K H b zs ∧ xs.length + zs.length ≤ sizeLine ∧ ∀ p, H p = none → Q (.ref p) (upd H p (.lst (xs ++ zs)))
theorem op_catL {X : Cx} : OpR X (binaryOp .Add) (rCatL X.K) := by
  intro pins s σ H x y v u Q I rx ry h
  obtain ⟨l, b, xs, zs, rfl, rfl, hH, hB, hz, q⟩ := h
  cases rx
  cases ry
  obtain ⟨its, r, pl, z⟩ := I.list hH
  obtain ⟨its2, r2, pl2, z2⟩ := I.list hB
  have hl := r.length
  have hl2 := r2.length
  obtain ⟨⟨cls, dd, data, sl⟩, ho, hc, n, hd⟩ := pl.isList
  obtain ⟨⟨cls2, dd2, data2, sl2⟩, ho2, hc2, n2, hd2⟩ := pl2.isList
  simp only at hc hd hc2 hd2
  subst hc hd hc2 hd2
  have e : its.toArray ++ its2.toArray = (its ++ its2).toArray := by simp
  refine concat_meets ⟨_, ho, rfl⟩ ⟨_, ho2, rfl⟩ noFill_list_add seq_list_add PySem.F.slot_list_add PySem.F.entry_list_add (PySem.F.args_list_add_2 _ _) (list_addW l b its.toArray its2.toArray n n2 dd dd2 sl sl2 (by simp only [List.size_toArray]; omega)) ⟨ho, ho2, ?_⟩
  rw [e]
  refine ⟨.ref s.heap.objs.size, _, I.laid (t' := s.toks) (o := .lst (xs ++ zs)) (fun b ob q => Heap.get?_push_of_some _ q) (Nat.le_refl _) ?_, rfl, q _ (I.hok.fresh (Nat.le_refl _))⟩
  exact ⟨by rw [List.length_append]; omega, _, 0, r.append r2, Heap.get?_push_size _ rfl⟩

section
variable {X : Cx} {K : PySem.W.Frag}
theorem sqL_new {H : Hp} {p : Addr} {xs : List V} : SqL K (upd H p (.lst xs)) p xs := .of upd_same
theorem sqT_new {H : Hp} {p : Addr} {xs : List V} : SqT K (upd H p (.tup xs)) p xs := .of upd_same

/-! ### the functions -/
def fI (C : Int → Int → Bool) (f : Int → Int → Int) : PyData → PyData → Option PyData
  | .int a, .int b => if C a b = true then some (.int (f a b)) else none
  | _, _ => none
def fB (f : Int → Int → Bool) : PyData → PyData → Option PyData
  | .int a, .int b => some (.bool (f a b))
  | _, _ => none
def fU (f : Int → Int) : PyData → Option PyData
  | .int a => some (.int (f a))
  | _ => none
def okMul (i j : Int) : Bool := (decide (-(2 ^ 64) < i) && decide (i < 2 ^ 64)) || (decide (-(2 ^ 64) < j) && decide (j < 2 ^ 64))
def okDiv (_ j : Int) : Bool := decide (j ≠ 0) && decide (j.natAbs < 1073741824)
def okMod (_ j : Int) : Bool := decide (j ≠ 0)
def okPow (i j : Int) : Bool := decide (0 ≤ j) && (decide (j ≤ 1000000) && decide (i.natAbs < 2 ^ 64))
def okShr (_ j : Int) : Bool := decide (0 ≤ j)
def okAll (_ _ : Int) : Bool := true
def oAdd : PyData → PyData → Option PyData
  | .int a, .int b => some (.int (a + b))
  | .tuple xs, .tuple ys => if xs.length + ys.length ≤ 16777216 then some (.tuple (xs ++ ys)) else none
  | .list xs, .list ys => if xs.length + ys.length ≤ 16777216 then some (.list (xs ++ ys)) else none
  | _, _ => none
def oSub := fI okAll fun a b => a - b
def oMul : PyData → PyData → Option PyData
  | .int a, .int b => if okMul a b = true then some (.int (a * b)) else none
  | .list xs, .int k => if decide (k < 1000) && (decide (-1000 < k) && decide (xs.length ≤ 1000)) = true then some (.list (List.replicate k.toNat xs).flatten) else none
  | .tuple xs, .int k => if decide (k ≤ 1000) && (decide (2 ≤ k) && (decide (xs.length ≤ 1000) && decide (0 < xs.length))) = true then some (.tuple (List.replicate k.toNat xs).flatten) else none
  | _, _ => none
def oDiv := fI okDiv Int.fdiv
def oMod := fI okMod Int.fmod
def oPow := fI okPow fun a b => a ^ b.toNat
def oShl := fI okPow fun a b => a * 2 ^ b.toNat
def oShr := fI okShr fun a b => a / 2 ^ b.toNat
def oAnd := fI okAll Builtin.bitAnd
def oOr := fI okAll Builtin.bitOr
def oXor := fI okAll Builtin.bitXor
def oNeg := fU fun a => -a
def oInv := fU Builtin.bitNot
def oLt := fB fun a b => decide (a < b)
def oLe := fB fun a b => decide (a ≤ b)
def oGt := fB fun a b => decide (b < a)
def oGe := fB fun a b => decide (b ≤ a)
def oEq (x y : PyData) : Option PyData := if SeqAt.shaped x && SeqAt.shaped y then some (.bool (PyData.eqv x y)) else none
def oNe (x y : PyData) : Option PyData := if SeqAt.shaped x && SeqAt.shaped y then some (.bool (!PyData.eqv x y)) else none
def oIsN : PyData → PyData → Option PyData
  | .none, .none => some (.bool true)
  | _, .none => some (.bool false)
  | _, _ => none
def oNotN : PyData → PyData → Option PyData
  | .none, .none => some (.bool false)
  | _, .none => some (.bool true)
  | _, _ => none
def oIsB : PyData → PyData → Option PyData
  | .bool a, .bool b => some (.bool (decide (a = b)))
  | _, _ => none
def oNotB : PyData → PyData → Option PyData
  | .bool a, .bool b => some (.bool (!decide (a = b)))
  | _, _ => none
def flatD : PyData → Bool
  | .none | .bool _ | .int _ | .str _ => true
  | _ => false
def inD (x : PyData) : PyData → Option Bool
  | .list ys => if SeqAt.shaped x && SeqAt.shaped (.list ys) then some (ys.any fun z => PyData.eqv z x) else none
  | .tuple ys => if flatD x && ys.all flatD then some (ys.any fun z => PyData.eqv z x) else none
  | _ => none
def oIn (x y : PyData) : Option PyData := match inD x y with | some b => some (.bool b) | none => none
def oNotIn (x y : PyData) : Option PyData := match inD x y with | some b => some (.bool (!b)) | none => none

/-! ### their rules -/
theorem o2_int {C : Int → Int → Prop} {c : Int → Int → Bool} {f : Int → Int → Int} (hc : ∀ i j, c i j = true → C i j) : Op2 K (rI C fun i j => .int (f i j)) (fI c f) := by
  intro v w H Ho Q x y z so hx hy e en
  unfold fI at e
  split at e
  · rename_i a b
    split at e
    · rename_i h
      cases e
      exact ⟨a, b, hx.int, hy.int, hc a b h, en.1 _ (.int _)⟩
    · cases e
  · cases e
theorem o2_int0 {f : Int → Int → Int} : Op2 K (rI0 fun i j => .int (f i j)) (fI okAll f) := by
  intro v w H Ho Q x y z so hx hy e en
  obtain ⟨i, j, h1, h2, _, q⟩ := o2_int (C := fun _ _ => True) (fun _ _ _ => trivial) v w H Ho Q x y z so hx hy e en
  exact ⟨i, j, h1, h2, q⟩
theorem o2_bl {f : Int → Int → Bool} : Op2 K (rI0 fun i j => .bl (f i j)) (fB f) := by
  intro v w H Ho Q x y z so hx hy e en
  unfold fB at e
  split at e
  · rename_i a b
    cases e
    exact ⟨a, b, hx.int, hy.int, en.1 _ (.bl _)⟩
  · cases e
theorem o1_int {f : Int → Int} : Op1 K (rU fun i => .int (f i)) (fU f) := by
  intro v H Ho Q x z so hx e en
  unfold fU at e
  split at e
  · cases e
    exact ⟨_, hx.int, en.1 _ (.int _)⟩
  · cases e
theorem o_sub : Op2 K (rI0 fun i j => .int (i - j)) oSub := o2_int0
theorem o_and : Op2 K (rI0 fun i j => .int (Builtin.bitAnd i j)) oAnd := o2_int0
theorem o_or : Op2 K (rI0 fun i j => .int (Builtin.bitOr i j)) oOr := o2_int0
theorem o_xor : Op2 K (rI0 fun i j => .int (Builtin.bitXor i j)) oXor := o2_int0
theorem o_div : Op2 K (rI CDivN fun i j => .int (i.fdiv j)) oDiv := o2_int fun i j h => by
  unfold okDiv at h
  simp only [Bool.and_eq_true, decide_eq_true_eq] at h
  exact h
theorem o_mod : Op2 K (rI (fun _ j => j ≠ 0) fun i j => .int (i.fmod j)) oMod := o2_int fun i j h => of_decide_eq_true h
theorem o_pow : Op2 K (rI CPow fun i j => .int (i ^ j.toNat)) oPow := o2_int fun i j h => by
  unfold okPow at h
  simp only [Bool.and_eq_true, decide_eq_true_eq] at h
  exact h
theorem o_shl : Op2 K (rI CPow fun i j => .int (i * 2 ^ j.toNat)) oShl := o2_int fun i j h => by
  unfold okPow at h
  simp only [Bool.and_eq_true, decide_eq_true_eq] at h
  exact h
theorem o_shr : Op2 K (rI (fun _ j => 0 ≤ j) fun i j => .int (i / 2 ^ j.toNat)) oShr := o2_int fun i j h => of_decide_eq_true h
theorem o_lt : Op2 K (rI0 fun i j => .bl (decide (i < j))) oLt := o2_bl
theorem o_le : Op2 K (rI0 fun i j => .bl (decide (i ≤ j))) oLe := o2_bl
theorem o_gt : Op2 K (rI0 fun i j => .bl (decide (j < i))) oGt := o2_bl
theorem o_ge : Op2 K (rI0 fun i j => .bl (decide (j ≤ i))) oGe := o2_bl
theorem o_neg : Op1 K (rU fun i => .int (-i)) oNeg := o1_int
theorem o_inv : Op1 K (rU fun i => .int (Builtin.bitNot i)) oInv := o1_int
theorem line_eq : (sizeLine : Nat) = 16777216 := sizeLine_eq
/-- a new list, a new tuple -/
theorem EndD.lst {H Ho : Hp} {Q : V → Hp → Prop} {vs : List V} {xs : List PyData} (en : EndD K H Ho Q (.list xs)) (h : DpAll K Ho vs xs) (hs : Same Ho H) : ∀ p, H p = none → Q (.ref p) (upd H p (.lst vs)) := fun p hp => by
  refine en.2 p (.lst vs) (.ref p) hp (.lst sqL_new (dpAll_mono (same_upd ?_) h))
  cases q : Ho p with
  | none => rfl
  | some o => rw [hs p o q] at hp; cases hp
theorem EndD.tup {H Ho : Hp} {Q : V → Hp → Prop} {vs : List V} {xs : List PyData} (en : EndD K H Ho Q (.tuple xs)) (h : DpAll K Ho vs xs) (hs : Same Ho H) : ∀ p, H p = none → Q (.ref p) (upd H p (.tup vs)) := fun p hp => by
  refine en.2 p (.tup vs) (.ref p) hp (.tup sqT_new (dpAll_mono (same_upd ?_) h))
  cases q : Ho p with
  | none => rfl
  | some o => rw [hs p o q] at hp; cases hp
def rAdd3 (K : PySem.W.Frag) : R2 := fun x y H Q => (rI0 fun i j => V.int (i + j)) x y H Q ∨ rCatA K x y H Q ∨ rCatL K x y H Q
theorem op_add3 : OpR X (binaryOp .Add) (rAdd3 X.K) := OpR.or op_add (OpR.or op_catA op_catL)
theorem o_add : Op2 K (rAdd3 K) oAdd := by
  intro v w H Ho Q x y z so hx hy e en
  unfold oAdd at e
  split at e
  · rename_i a b
    cases e
    exact .inl ⟨a, b, hx.int, hy.int, en.1 _ (.int _)⟩
  · rename_i xs ys
    split at e
    · rename_i hl
      cases e
      obtain ⟨a, vs, rfl, h1, h1', d1⟩ := hx.tup so
      obtain ⟨b, ws, rfl, h2, h2', d2⟩ := hy.tup so
      have l1 := DpAll.length d1
      have l2 := DpAll.length d2
      refine .inr (.inl ⟨a, b, vs, ws, rfl, rfl, h1, h2, by rw [line_eq]; omega, fun q => ?_, fun q1 q2 => ?_, fun _ _ => en.tup (DpAll.append d1 d2) so⟩)
      · subst q
        cases d1
        exact en.1 _ (.tup h2' d2)
      · subst q2
        cases d2
        rw [List.append_nil] at en
        exact en.1 _ (.tup h1' d1)
    · cases e
  · rename_i xs ys
    split at e
    · rename_i hl
      cases e
      obtain ⟨a, vs, rfl, h1, d1⟩ := hx.list so
      obtain ⟨b, ws, rfl, h2, d2⟩ := hy.list so
      have l1 := DpAll.length d1
      have l2 := DpAll.length d2
      exact .inr (.inr ⟨a, b, vs, ws, rfl, rfl, h1, h2, by rw [line_eq]; omega, en.lst (DpAll.append d1 d2) so⟩)
    · cases e
  · cases e
theorem o_eq : Op2 K (rEqD K) oEq := by
  intro v w H Ho Q x y z so hx hy e en
  unfold oEq at e
  split at e
  · rename_i h
    rw [Bool.and_eq_true] at h
    cases e
    exact ⟨x, y, hx.full so, hy.full so, h.1, h.2, en.1 _ (.bl _)⟩
  · cases e
theorem o_ne : Op2 K (rNeD K) oNe := by
  intro v w H Ho Q x y z so hx hy e en
  unfold oNe at e
  split at e
  · rename_i h
    rw [Bool.and_eq_true] at h
    cases e
    exact ⟨x, y, hx.full so, hy.full so, h.1, h.2, en.1 _ (.bl _)⟩
  · cases e
theorem dp_non {H : Hp} {v : V} {x : PyData} (h : Dp K H v x) : decide (v = .non) = (match x with | .none => true | _ => false) := by
  cases h <;> first | rfl | exact decide_eq_false (fun q => by cases q)
theorem o_isN : Op2 K (fun x y H Q => y = .non ∧ Q (.bl (decide (x = .non))) H) oIsN := by
  intro v w H Ho Q x y z so hx hy e en
  have d := hx.full so
  unfold oIsN at e
  split at e
  · cases e
    cases d
    exact ⟨hy.non, en.1 _ (.bl _)⟩
  · rename_i hn
    cases e
    refine ⟨hy.non, ?_⟩
    rw [dp_non d]
    cases x <;> first | exact en.1 _ (.bl _) | exact absurd rfl (hn · rfl) | exact (hn rfl).elim
  · cases e
theorem o_notN : Op2 K (fun x y H Q => y = .non ∧ Q (.bl (!decide (x = .non))) H) oNotN := by
  intro v w H Ho Q x y z so hx hy e en
  have d := hx.full so
  unfold oNotN at e
  split at e
  · cases e
    cases d
    exact ⟨hy.non, en.1 _ (.bl _)⟩
  · rename_i hn
    cases e
    refine ⟨hy.non, ?_⟩
    rw [dp_non d]
    cases x <;> first | exact en.1 _ (.bl _) | exact (hn rfl).elim
  · cases e
theorem o_isB : Op2 K (fun x y H Q => ∃ a b, x = .bl a ∧ y = .bl b ∧ Q (.bl (decide (a = b))) H) oIsB := by
  intro v w H Ho Q x y z so hx hy e en
  unfold oIsB at e
  split at e
  · cases e
    exact ⟨_, _, hx.bl, hy.bl, en.1 _ (.bl _)⟩
  · cases e
theorem o_notB : Op2 K (fun x y H Q => ∃ a b, x = .bl a ∧ y = .bl b ∧ Q (.bl (!decide (a = b))) H) oNotB := by
  intro v w H Ho Q x y z so hx hy e en
  unfold oNotB at e
  split at e
  · cases e
    exact ⟨_, _, hx.bl, hy.bl, en.1 _ (.bl _)⟩
  · cases e
/-- flat data and its value -/
theorem flat_dp {H : Hp} {v : V} {x : PyData} (h : Dp K H v x) (f : flatD x = true) : flatV v = true := by
  cases h <;> first | rfl | cases f
theorem eqV_dp {H : Hp} {v w : V} {x y : PyData} (h : Dp K H v x) (h' : Dp K H w y) (f : flatD x = true) (f' : flatD y = true) : eqV w v = PyData.eqv y x := by
  cases h <;> cases h' <;> first | (cases (show false = true from f); done) | (cases (show false = true from f'); done) | (simp only [eqV, PyData.eqv]; done)
theorem flat_all {H : Hp} : ∀ {vs : List V} {xs : List PyData}, DpAll K H vs xs → xs.all flatD = true → vs.all flatV = true
  | _, _, .nil, _ => rfl
  | _, _, .cons h r, f => by
    rw [List.all_cons, Bool.and_eq_true] at f ⊢
    exact ⟨flat_dp h f.1, flat_all r f.2⟩
theorem inV_dp {H : Hp} {v : V} {x : PyData} (hv : Dp K H v x) (fx : flatD x = true) : ∀ {vs : List V} {xs : List PyData}, DpAll K H vs xs → xs.all flatD = true → inV v vs = xs.any fun z => PyData.eqv z x
  | _, _, .nil, _ => rfl
  | _, _, .cons h r, f => by
    rw [List.all_cons, Bool.and_eq_true] at f
    have ih := inV_dp hv fx r f.2
    unfold inV at ih ⊢
    rw [List.any_cons, List.any_cons, ih, eqV_dp hv h fx f.1]
def rIn3 (K : PySem.W.Frag) (neg : Bool) : R2 := fun x y H Q => rIn K neg x y H Q ∨ (if neg then rNotInD K x y H Q else rInD K x y H Q)
theorem op_in3 (hu : X.A.units + 65 < cLine) : OpR X (compareOp .In) (rIn3 X.K false) := OpR.or op_in_seq (op_inD hu)
theorem op_notIn3 (hu : X.A.units + 65 < cLine) : OpR X (compareOp .NotIn) (rIn3 X.K true) := OpR.or op_notIn_seq (op_notInD hu)
theorem o_inG (neg : Bool) {v w : V} {H Ho : Hp} {Q : V → Hp → Prop} {x y : PyData} {b : Bool} (so : Same Ho H) (hx : VW K H Ho v x) (hy : VW K H Ho w y) (e : inD x y = some b) (en : EndD K H Ho Q (.bool (if neg then !b else b))) : rIn3 K neg v w H Q := by
  unfold inD at e
  split at e
  · rename_i ys
    split at e
    · rename_i h
      rw [Bool.and_eq_true] at h
      cases e
      cases neg with
      | true => exact .inr ⟨x, ys, hx.full so, hy.full so, h.1, h.2, en.1 _ (.bl _)⟩
      | false => exact .inr ⟨x, ys, hx.full so, hy.full so, h.1, h.2, en.1 _ (.bl _)⟩
    · cases e
  · rename_i ys
    split at e
    · rename_i h
      rw [Bool.and_eq_true] at h
      cases e
      obtain ⟨a, vs, rfl, h1, h1', d1⟩ := hy.tup so
      refine .inl ⟨a, vs, rfl, .inr h1, flat_dp (hx.full so) h.1, flat_all d1 h.2, ?_⟩
      rw [inV_dp (hx.full so) h.1 (dpAll_mono so d1) h.2]
      cases neg with
      | true => exact en.1 _ (.bl _)
      | false => exact en.1 _ (.bl _)
    · cases e
  · cases e
theorem o_in : Op2 K (rIn3 K false) oIn := by
  intro v w H Ho Q x y z so hx hy e en
  unfold oIn at e
  cases q : inD x y with
  | none => rw [q] at e; cases e
  | some b =>
    rw [q] at e
    cases e
    exact o_inG false so hx hy q en
theorem o_notIn : Op2 K (rIn3 K true) oNotIn := by
  intro v w H Ho Q x y z so hx hy e en
  unfold oNotIn at e
  cases q : inD x y with
  | none => rw [q] at e; cases e
  | some b =>
    rw [q] at e
    cases e
    exact o_inG true so hx hy q en
end
end FL
end
section
set_option Elab.async false
set_option linter.all false
set_option maxRecDepth 100000
set_option autoImplicit false
namespace FL
open PySem L2

section
variable {g : Gd} {W : XW} {σ : L2.St} {ρ ρ' : Env} {H H0 H' Ho Ho' : Hp} {F F0 G hid F1 S S' : List Addr}

/-! ### what a result is, later -/
theorem rv_mono {v : V} {x : Rv} (h : RV g σ H Ho v x F) (e : Same Ho Ho') (k : ∀ a ∈ F, H' a = H a) : RV g σ H' Ho' v x F := by
  cases x with
  | o x => exact ro_mono e h k
  | s i => exact h
theorem RVs.length : ∀ {vs : List V} {xs : List Rv} {F : List Addr}, RVs g σ H Ho vs xs F → vs.length = xs.length
  | [], [], _, _ => rfl
  | v :: vs, x :: xs, _, h => by
    obtain ⟨_, _, _, _, r⟩ := h
    rw [List.length_cons, List.length_cons, RVs.length r]
  | [], _ :: _, _, h => h.elim
  | _ :: _, [], _, h => h.elim
/-- Q of an end, the bookkeeping of one part done -/
theorem sem_ok {α β : Type} {RA : St → Hp → Hp → β → α → List Addr → Prop} {m : Env → R α} {Q : β → Hp → Prop} (h : sem g W RA m σ H Q) : ∃ ρ F hid, Rel g H σ ρ F hid ∧ Post g W RA σ hid H F Q (m ρ) := h

/-! ### argument lists -/
def mNil : Ms := fun ρ => .ok [] ρ
def mCons (m : M) (ms : Ms) : Ms := fun ρ => (m ρ).bind fun x ρ1 => (ms ρ1).bind fun xs ρ2 => .ok (x :: xs) ρ2
theorem sA_nil {Q : List V → Hp → Prop} (h : sA g W mNil σ H Q) : tNil σ H Q := by
  obtain ⟨ρ, F, hid, r, p⟩ := h
  exact p H F [] [] r Ext.refl rfl
theorem sA_cons {m : M} {ms : Ms} {Q : List V → Hp → Prop} (h : sA g W (mCons m ms) σ H Q) : tCons (sE g W m) (sA g W ms) σ H Q := by
  obtain ⟨ρ, F, hid, r0, p⟩ := h
  refine ⟨ρ, F, hid, r0, Post.bind (G := []) Ext.refl p fun x ρ1 H1 F1 G1 v r1 x1 v1 p1 => ?_⟩
  refine ⟨ρ1, F1, G1 ++ hid, r1, Post.bind (G := G1) x1 p1 fun xs ρ2 H2 F2 G2 vs r2 x2 v2 p2 => ?_⟩
  have pm : (G2 ++ (G1 ++ hid)).Perm ((G1 ++ G2) ++ hid) := by
    rw [← List.append_assoc]
    exact List.Perm.append_right hid List.perm_append_comm
  have pp : (F2 ++ (G2 ++ (G1 ++ hid))).Perm (F2 ++ ((G1 ++ G2) ++ hid)) := List.Perm.append_left F2 pm
  have eo : off H2 (F2 ++ (G2 ++ (G1 ++ hid))) = off H2 (F2 ++ ((G1 ++ G2) ++ hid)) := off_congr fun a => pp.mem_iff
  refine p2 H2 F2 (G1 ++ G2) (v :: vs) (r2.perm pm) ?_ ⟨G1, G2, rfl, ?_, ?_⟩
  · exact (Ext.trans x1 (x2.less fun c m => List.mem_append_right _ m)).trans (Ext.sub fun a m => pp.mem_iff.mpr m)
  · rw [← eo]
    exact rv_mono v1 x2.op fun c m => x2.hd c (List.mem_append_left _ m)
  · rw [← eo]
    exact v2
end

section
variable {X : Cx} {g : Gd} {W : XW}
theorem fa_nil : PA X [] (sA g W mNil) := PA.imp pa_nil fun _ _ _ h => sA_nil h
theorem fa_cons {e : Expr} {es : List Expr} {m : M} {ms : Ms} (ha : PE X e (sE g W m)) (hr : PA X es (sA g W ms)) (hs : starEach (e :: es) X.env = (false, eval e X.env) :: starEach es X.env := by rfl) :
    PA X (e :: es) (sA g W (mCons m ms)) := PA.imp (pa_cons ha hr hs) fun _ _ _ h => sA_cons h
end

/-! ### a whole list of results -/
/-- as data, owned ones being given up -/
def Rv.datR : Rv → Option PyData
  | .o x => x.dat
  | .s _ => none
def datRs : List Rv → Option (List PyData)
  | [] => some []
  | x :: xs => match x.datR with
    | some y => match datRs xs with | some ys => some (y :: ys) | none => none
    | none => none
def Rv.own : Rv → Option O
  | .o x => some x
  | .s _ => none
def ownRs : List Rv → Option (List O)
  | [] => some []
  | x :: xs => match x.own with
    | some y => match ownRs xs with | some ys => some (y :: ys) | none => none
    | none => none
def viewRs (ρ : Env) : List Rv → Option (List PyData)
  | [] => some []
  | x :: xs => match x.view ρ with
    | some y => match viewRs ρ xs with | some ys => some (y :: ys) | none => none
    | none => none
inductive VWs (K : PySem.W.Frag) (H Ho : Hp) : List V → List PyData → Prop
  | nil : VWs K H Ho [] []
  | cons {v : V} {vs : List V} {x : PyData} {xs : List PyData} : VW K H Ho v x → VWs K H Ho vs xs → VWs K H Ho (v :: vs) (x :: xs)
section
variable {g : Gd} {W : XW} {σ : L2.St} {ρ ρ' : Env} {H H0 H' Ho Ho' : Hp} {F F0 G hid F1 S S' : List Addr}
theorem rvs_view : ∀ {vs : List V} {xs : List Rv} {ys : List PyData} {G1 F2 T : List Addr}, RVs g σ H (off H (F2 ++ T)) vs xs G1 → Rel g H σ ρ F2 T → viewRs ρ xs = some ys → VWs g.K H (off H (F2 ++ T)) vs ys
  | [], [], _, _, _, _, _, _, e => by
    cases e
    exact .nil
  | v :: vs, x :: xs, ys, _, _, _, h, r, e => by
    obtain ⟨F1, F2, _, h1, h2⟩ := h
    unfold viewRs at e
    cases e1 : x.view ρ with
    | none => rw [e1] at e; cases e
    | some y =>
      rw [e1] at e
      cases e2 : viewRs ρ xs with
      | none => rw [e2] at e; cases e
      | some zs =>
        rw [e2] at e
        cases e
        exact .cons (rv_view h1 (Same.refl _) (fun _ _ => rfl) r e1) (rvs_view h2 r e2)
  | [], _ :: _, _, _, _, _, h, _, _ => h.elim
  | _ :: _, [], _, _, _, _, h, _, _ => h.elim
theorem rvs_own : ∀ {vs : List V} {xs : List Rv} {os : List O} {F : List Addr}, RVs g σ H Ho vs xs F → ownRs xs = some os → ROs g H Ho vs os F
  | [], [], _, F, h, e => by
    cases e
    obtain rfl : F = [] := h
    exact .nil
  | v :: vs, x :: xs, os, _, h, e => by
    obtain ⟨F1, F2, rfl, h1, h2⟩ := h
    unfold ownRs at e
    cases x with
    | s i => cases e
    | o x =>
      have e : (match ownRs xs with | some ys => some (x :: ys) | none => none) = some os := e
      cases e2 : ownRs xs with
      | none => rw [e2] at e; cases e
      | some zs =>
        rw [e2] at e
        cases e
        exact .cons h1 (rvs_own h2 e2)
  | [], _ :: _, _, _, h, _ => h.elim
  | _ :: _, [], _, _, h, _ => h.elim
/-- given up: data -/
theorem rvs_dat : ∀ {vs : List V} {xs : List Rv} {ys : List PyData} {F : List Addr}, RVs g σ H Ho vs xs F → Same Ho Ho' → (∀ a ∈ F, ∀ u, H a = some u → Ho' a = some u) → datRs xs = some ys → DpAll g.K Ho' vs ys
  | [], [], _, F, h, _, _, e => by
    cases e
    exact .nil
  | v :: vs, x :: xs, ys, _, h, s, k, e => by
    obtain ⟨F1, F2, rfl, h1, h2⟩ := h
    unfold datRs at e
    cases e1 : x.datR with
    | none => rw [e1] at e; cases e
    | some y =>
      rw [e1] at e
      cases e2 : datRs xs with
      | none => rw [e2] at e; cases e
      | some zs =>
        rw [e2] at e
        cases e
        cases x with
        | s i => cases e1
        | o x => exact .cons (ro_dat rfl s h1 (fun a m => k a (List.mem_append_left _ m)) e1) (rvs_dat h2 s (fun a m => k a (List.mem_append_right _ m)) e2)
  | [], _ :: _, _, _, h, _, _, _ => h.elim
  | _ :: _, [], _, _, h, _, _, _ => h.elim
/-- what was given up is open -/
theorem off_free {F2 G1 T : List Addr} (nd : (F2 ++ (G1 ++ T)).Nodup) : ∀ a ∈ G1, ∀ u, H a = some u → off H (F2 ++ T) a = some u := fun a m u e => by
  unfold off
  rw [if_neg, e]
  intro q
  obtain ⟨n1, n2, n3⟩ := List.nodup_append.mp nd
  rcases List.mem_append.mp q with q | q
  · exact n3 a q a (List.mem_append_left _ m) rfl
  · obtain ⟨m1, m2, m3⟩ := List.nodup_append.mp n2
    exact m3 a m a q rfl
theorem off_more {F2 G1 T : List Addr} : Same (off H (F2 ++ (G1 ++ T))) (off H (F2 ++ T)) :=
  off_sub fun a m => (List.mem_append.mp m).elim (List.mem_append_left _) fun z => List.mem_append_right _ (List.mem_append_right _ z)

/-! ### displays -/
def okLen {α : Type} (xs : List α) : Bool := decide (xs.length ≤ 16777216)
def mTup (ms : Ms) : M := fun ρ => (ms ρ).bind fun xs ρ1 => match datRs xs with
  | some ys => if okLen ys = true then .ok (.o (.d (.tuple ys))) ρ1 else .bad
  | none => .bad
def mLstD (ms : Ms) : M := fun ρ => (ms ρ).bind fun xs ρ1 => match datRs xs with
  | some ys => if okLen ys = true then .ok (.o (.d (.list ys))) ρ1 else .bad
  | none => .bad
def mLstO (ms : Ms) : M := fun ρ => (ms ρ).bind fun xs ρ1 => match ownRs xs with
  | some ys => if okLen ys = true then .ok (.o (.lst ys)) ρ1 else .bad
  | none => .bad
theorem none_of_same {p : Addr} (s : Same Ho H) (h : H p = none) : Ho p = none := by
  cases q : Ho p with
  | none => rfl
  | some o => rw [s p o q] at h; cases h
theorem sE_tup {ms : Ms} {Q : V → Hp → Prop} (h : sE g W (mTup ms) σ H Q) : tTup (sA g W ms) σ H Q := by
  obtain ⟨ρ, F, hid, r0, p⟩ := h
  refine ⟨ρ, F, hid, r0, Post.bind (G := []) Ext.refl p fun xs ρ1 H1 F1 G1 vs r1 x1 v1 p1 => ?_⟩
  cases e : datRs xs with
  | none => simp only [e] at p1; exact p1.elim
  | some ys =>
    simp only [e] at p1
    by_cases hl : okLen ys = true
    · rw [if_pos hl] at p1
      have hl := of_decide_eq_true hl
      have d : DpAll g.K (off H1 (F1 ++ hid)) vs ys := rvs_dat v1 off_more (off_free r1.nd) e
      refine ⟨by rw [line_eq, DpAll.length d]; exact hl, ?_⟩
      have r2 : Rel g H1 σ ρ1 F1 ([] ++ hid) := r1.unhide (List.sublist_append_right G1 hid)
      exact (Post.endD (S0 := []) p1 r2 (x1.trans (Ext.sub fun a m => (List.mem_append.mp m).elim (List.mem_append_left _) fun z => List.mem_append_right _ (List.mem_append_right _ z)))).tup d off_le
    · rw [if_neg hl] at p1
      exact p1.elim
theorem sE_lstD {ms : Ms} {Q : V → Hp → Prop} (h : sE g W (mLstD ms) σ H Q) : tLst (sA g W ms) σ H Q := by
  obtain ⟨ρ, F, hid, r0, p⟩ := h
  refine ⟨ρ, F, hid, r0, Post.bind (G := []) Ext.refl p fun xs ρ1 H1 F1 G1 vs r1 x1 v1 p1 => ?_⟩
  cases e : datRs xs with
  | none => simp only [e] at p1; exact p1.elim
  | some ys =>
    simp only [e] at p1
    by_cases hl : okLen ys = true
    · rw [if_pos hl] at p1
      have hl := of_decide_eq_true hl
      have d : DpAll g.K (off H1 (F1 ++ hid)) vs ys := rvs_dat v1 off_more (off_free r1.nd) e
      refine ⟨by rw [line_eq, DpAll.length d]; exact hl, ?_⟩
      have r2 : Rel g H1 σ ρ1 F1 ([] ++ hid) := r1.unhide (List.sublist_append_right G1 hid)
      exact (Post.endD (S0 := []) p1 r2 (x1.trans (Ext.sub fun a m => (List.mem_append.mp m).elim (List.mem_append_left _) fun z => List.mem_append_right _ (List.mem_append_right _ z)))).lst d off_le
    · rw [if_neg hl] at p1
      exact p1.elim
/-- where an operation ends in a new object that is owned -/
theorem Post.endO {o : O} {Q : V → Hp → Prop} (h : Post g W (RV g) σ hid H F Q (.ok (.o o) ρ')) (r : Rel g H' σ ρ' F0 (F1 ++ hid)) (e : Ext hid H (F ++ hid) H' (F0 ++ (F1 ++ hid))) {p : Addr} {u : HO} (hn : H' p = none)
    (d : RO g (upd H' p u) (off H' (F0 ++ (F1 ++ hid))) (.ref p) o (p :: F1)) : Q (.ref p) (upd H' p u) := by
  have np := r.fresh hn
  have pm : (p :: (F0 ++ (F1 ++ hid))).Perm (F0 ++ ((p :: F1) ++ hid)) := List.perm_middle.symm
  have eo : off (upd H' p u) (F0 ++ ((p :: F1) ++ hid)) = off H' (F0 ++ (F1 ++ hid)) := by
    rw [← off_new (S := F0 ++ (F1 ++ hid)) (o := u) hn]
    exact off_congr fun a => pm.mem_iff.symm
  have k : ∀ a ∈ F0 ++ (F1 ++ hid), upd H' p u a = H' a := fun a m => upd_ne fun z => np (z ▸ m)
  refine h (upd H' p u) F0 (p :: F1) (.ref p) ⟨?_, ?_, ?_⟩ ⟨?_, fun a m => ?_⟩ ?_
  · rw [eo]
    exact renv_mono (Same.refl _) r.env fun a m => k a (List.mem_append_left _ m)
  · exact pm.nodup_iff.mp (List.nodup_cons.mpr ⟨np, r.nd⟩)
  · intro a m
    rcases List.mem_cons.mp (pm.mem_iff.mpr m) with q | q
    · rw [q, upd_same]; exact fun z => by cases z
    · rw [k a q]; exact r.tr a q
  · rw [eo]
    exact e.op
  · rw [k a (List.mem_append_right _ (List.mem_append_right _ m))]
    exact e.hd a m
  · rw [eo]
    exact d
theorem sE_lstO {ms : Ms} {Q : V → Hp → Prop} (h : sE g W (mLstO ms) σ H Q) : tLst (sA g W ms) σ H Q := by
  obtain ⟨ρ, F, hid, r0, p⟩ := h
  refine ⟨ρ, F, hid, r0, Post.bind (G := []) Ext.refl p fun xs ρ1 H1 F1 G1 vs r1 x1 v1 p1 => ?_⟩
  cases e : ownRs xs with
  | none => simp only [e] at p1; exact p1.elim
  | some ys =>
    simp only [e] at p1
    by_cases hl : okLen ys = true
    · rw [if_pos hl] at p1
      have hl := of_decide_eq_true hl
      have d := rvs_own v1 e
      refine ⟨by rw [line_eq, ROs.length d]; exact hl, fun q hn => ?_⟩
      have np := r1.fresh hn
      exact Post.endO p1 r1 x1 hn (.lst upd_same (ros_mono (Same.refl _) d fun a m => upd_ne fun z => np (by rw [← z]; exact List.mem_append_right _ (List.mem_append_left _ m))))
    · rw [if_neg hl] at p1
      exact p1.elim

/-! ### built-ins upon views -/
def OpN (K : PySem.W.Frag) (r : List V → Hp → VK → Prop) (f : List PyData → Option PyData) : Prop :=
  ∀ vs H Ho Q xs z, Same Ho H → VWs K H Ho vs xs → f xs = some z → EndD K H Ho Q z → r vs H Q
/-- .. that gives a new list always -/
def OpL (K : PySem.W.Frag) (r : List V → Hp → VK → Prop) (f : List PyData → Option (List PyData)) : Prop :=
  ∀ vs H Ho Q xs zs, Same Ho H → VWs K H Ho vs xs → f xs = some zs → (∀ ws p, H p = none → DpAll K Ho ws zs → Q (.ref p) (upd H p (.lst ws))) → r vs H Q
def mCallB (f : List PyData → Option PyData) (ms : Ms) : M := fun ρ => (ms ρ).bind fun xs ρ1 => match viewRs ρ1 xs with
  | some ys => optR (f ys) ρ1
  | none => .bad
def mCallL (f : List PyData → Option (List PyData)) (ms : Ms) : M := fun ρ => (ms ρ).bind fun xs ρ1 => match viewRs ρ1 xs with
  | some ys => match f ys with | some zs => .ok (.o (.lst (zs.map .d))) ρ1 | none => .bad
  | none => .bad
theorem callN {ta : TA} {r : List V → Hp → VK → Prop} {f : List PyData → Option PyData} {ms : Ms} (op : OpN g.K r f) {Q : V → Hp → Prop} (h : sE g W (mCallB f ms) σ H Q) :
    tCB r (sA g W ms) σ H Q := by
  obtain ⟨ρ, F, hid, r0, p⟩ := h
  refine ⟨ρ, F, hid, r0, Post.bind (G := []) Ext.refl p fun xs ρ1 H1 F1 G1 vs r1 x1 v1 p1 => ?_⟩
  cases e : viewRs ρ1 xs with
  | none => simp only [e] at p1; exact p1.elim
  | some ys =>
    simp only [e] at p1
    cases e3 : f ys with
    | none => simp only [e3] at p1; exact p1.elim
    | some z =>
      simp only [e3] at p1
      exact op vs H1 _ Q ys z off_le (rvs_view v1 r1 e) e3 (Post.endD p1 r1 x1)
theorem callL {r : List V → Hp → VK → Prop} {f : List PyData → Option (List PyData)} {ms : Ms} (op : OpL g.K r f) {Q : V → Hp → Prop} (h : sE g W (mCallL f ms) σ H Q) :
    tCB r (sA g W ms) σ H Q := by
  obtain ⟨ρ, F, hid, r0, p⟩ := h
  refine ⟨ρ, F, hid, r0, Post.bind (G := []) Ext.refl p fun xs ρ1 H1 F1 G1 vs r1 x1 v1 p1 => ?_⟩
  cases e : viewRs ρ1 xs with
  | none => simp only [e] at p1; exact p1.elim
  | some ys =>
    simp only [e] at p1
    cases e3 : f ys with
    | none => simp only [e3] at p1; exact p1.elim
    | some zs =>
      simp only [e3] at p1
      refine op vs H1 _ Q ys zs off_le (rvs_view v1 r1 e) e3 fun ws q hn d => ?_
      have r2 : Rel g H1 σ ρ1 F1 ([] ++ hid) := r1.unhide (List.sublist_append_right G1 hid)
      have sub : ∀ a ∈ F1 ++ ([] ++ hid), a ∈ F1 ++ (G1 ++ hid) := fun a m => (List.mem_append.mp m).elim (List.mem_append_left _) fun z => List.mem_append_right _ (List.mem_append_right _ z)
      exact Post.endO (F1 := []) p1 r2 (x1.trans (Ext.sub sub)) hn (.lst upd_same (ros_dat (dpAll_mono (off_sub sub) d)))
/-- given up -/
def mFrz (m : M) : M := fun ρ => (m ρ).bind fun x ρ1 => match x.datR with | some y => .ok (.o (.d y)) ρ1 | none => .bad
theorem sE_frz {m : M} {Q : V → Hp → Prop} (h : sE g W (mFrz m) σ H Q) : sE g W m σ H Q := by
  obtain ⟨ρ, F, hid, r0, p⟩ := h
  refine ⟨ρ, F, hid, r0, Post.bind (G := []) Ext.refl p fun x ρ1 H1 F1 G1 v r1 x1 v1 p1 => ?_⟩
  cases e : x.datR with
  | none => simp only [e] at p1; exact p1.elim
  | some y =>
    simp only [e] at p1
    cases x with
    | s i => cases e
    | o x =>
      have r2 : Rel g H1 σ ρ1 F1 ([] ++ hid) := r1.unhide (List.sublist_append_right G1 hid)
      exact Post.finD (S0 := []) p1 r2 (x1.trans (Ext.sub fun a m => (List.mem_append.mp m).elim (List.mem_append_left _) fun z => List.mem_append_right _ (List.mem_append_right _ z)))
        (ro_dat rfl off_more v1 (off_free r1.nd) e)
end

/-! ### tests -/
def tru : PyData → Option Bool
  | .none => some false
  | .bool b => some b
  | .int i => some (i != 0)
  | .list xs => some (!xs.isEmpty)
  | .tuple xs => some (!xs.isEmpty)
  | _ => none
def asB : PyData → Option Bool
  | .bool b => some b
  | _ => none
def mTst (f : PyData → Option Bool) (m : M) : Mb := fun ρ => (m ρ).bind fun x ρ1 => match x.view ρ1 with
  | some y => match f y with | some b => .ok b ρ1 | none => .bad
  | none => .bad
def mAndT (a b : Mb) : Mb := fun ρ => (a ρ).bind fun c ρ1 => if c = true then b ρ1 else .ok false ρ1
def mOrT (a b : Mb) : Mb := fun ρ => (a ρ).bind fun c ρ1 => if c = true then .ok true ρ1 else b ρ1
def mNotT (a : Mb) : Mb := fun ρ => (a ρ).bind fun c ρ1 => .ok (!c) ρ1
/-- and, or, not as values: the first a truth value -/
def mAndV (a b : M) : M := fun ρ => (a ρ).bind fun x ρ1 => match x with
  | .o (.d (.bool c)) => if c = true then b ρ1 else .ok (.o (.d (.bool false))) ρ1
  | _ => .bad
def mOrV (a b : M) : M := fun ρ => (a ρ).bind fun x ρ1 => match x with
  | .o (.d (.bool c)) => if c = true then .ok (.o (.d (.bool true))) ρ1 else b ρ1
  | _ => .bad
def mNotV (a : M) : M := fun ρ => (a ρ).bind fun x ρ1 => match x with
  | .o (.d (.bool c)) => .ok (.o (.d (.bool (!c)))) ρ1
  | _ => .bad
def mIf (t : Mb) (a b : M) : M := fun ρ => (t ρ).bind fun c ρ1 => if c = true then a ρ1 else b ρ1
/-- a < b < c -/
def mChain (f f' : PyData → PyData → Option PyData) (ma mb mc : M) : M := fun ρ => (ma ρ).bind fun x ρ1 => (mb ρ1).bind fun y ρ2 => match view2 f x y ρ2 with
  | some (.bool k) => if k = true then (mc ρ2).bind fun z ρ3 => optR (view2 f' y z ρ3) ρ3 else .ok (.o (.d (.bool false))) ρ2
  | _ => .bad
section
variable {g : Gd} {W : XW} {σ : L2.St} {ρ ρ' : Env} {H H0 H' Ho Ho' : Hp} {F F0 G hid F1 S S' : List Addr}
/-- a test's end -/
theorem Post.endT {b : Bool} {Q : Bool → Hp → Prop} {S0 : List Addr} (h : Post g W RB σ hid H F Q (.ok b ρ')) (r : Rel g H' σ ρ' F0 (S0 ++ hid)) (e : Ext hid H (F ++ hid) H' (F0 ++ (S0 ++ hid))) : Q b H' :=
  Post.fin (F1 := []) h r e (List.nil_sublist _) ⟨rfl, rfl⟩
theorem bools (x : PyData) : (∃ b, x = .bool b) ∨ asB x = none := by
  cases x <;> first | exact .inl ⟨_, rfl⟩ | exact .inr rfl
theorem sT_bool {m : M} {Q : Bool → Hp → Prop} (h : sT g W (mTst asB m) σ H Q) : tTest (sE g W m) σ H Q := by
  obtain ⟨ρ, F, hid, r0, p⟩ := h
  refine ⟨ρ, F, hid, r0, Post.bind (G := []) Ext.refl p fun x ρ1 H1 F1 G1 v r1 x1 v1 p1 => ?_⟩
  cases e : x.view ρ1 with
  | none => simp only [e] at p1; exact p1.elim
  | some y =>
    simp only [e] at p1
    rcases bools y with ⟨b, rfl⟩ | hn
    · exact ⟨b, (rv_view v1 (Same.refl _) (fun _ _ => rfl) r1 e).bl, Post.endT p1 r1 x1⟩
    · simp only [hn] at p1
      exact p1.elim
theorem sT_tru {m : M} {Q : Bool → Hp → Prop} (h : sT g W (mTst tru m) σ H Q) : sE g W m σ H fun x H1 => ∃ k, TruV g.K x H1 k ∧ Q k H1 := by
  obtain ⟨ρ, F, hid, r0, p⟩ := h
  refine ⟨ρ, F, hid, r0, Post.bind (G := []) Ext.refl p fun x ρ1 H1 F1 G1 v r1 x1 v1 p1 => ?_⟩
  cases e : x.view ρ1 with
  | none => simp only [e] at p1; exact p1.elim
  | some y =>
    simp only [e] at p1
    cases e1 : tru y with
    | none => simp only [e1] at p1; exact p1.elim
    | some b =>
      simp only [e1] at p1
      have d := (rv_view v1 (Same.refl _) (fun _ _ => rfl) r1 e).full off_le
      refine ⟨b, ?_, Post.endT p1 r1 x1⟩
      cases d with
      | non => cases e1; rfl
      | bl b => cases e1; rfl
      | int i => cases e1; rfl
      | str x => cases e1
      | lst h1 h2 =>
        cases e1
        exact .inl ⟨_, h1, by cases h2 <;> rfl⟩
      | tup h1 h2 =>
        cases e1
        exact .inr (.inl ⟨_, h1, by cases h2 <;> rfl⟩)
theorem sT_and {a b : Mb} {Q : Bool → Hp → Prop} (h : sT g W (mAndT a b) σ H Q) : tAnd (sT g W a) (sT g W b) σ H Q := by
  obtain ⟨ρ, F, hid, r0, p⟩ := h
  refine ⟨ρ, F, hid, r0, Post.bind (G := []) Ext.refl p fun c ρ1 H1 F1 G1 v r1 x1 v1 p1 => ?_⟩
  obtain ⟨rfl, rfl⟩ := v1
  cases v with
  | false => exact Post.endT (S0 := []) p1 r1 x1
  | true => exact ⟨ρ1, F1, hid, r1, Post.bind (G := []) (k := fun b ρ => .ok b ρ) x1 (by
      have p1 : Post g W RB σ hid H F Q (b ρ1) := p1
      cases e : b ρ1 with
      | ok b' ρ2 => rw [e] at p1; exact p1
      | exc e' ρ2 => rw [e] at p1; exact p1
      | bad => rw [e] at p1; exact p1) fun c ρ2 H2 F2 G2 v r2 x2 v2 p2 => by
        obtain ⟨rfl, rfl⟩ := v2
        exact Post.endT (S0 := []) p2 r2 (Ext.trans x1 x2)⟩
theorem R.bind_ok {α : Type} (m : R α) : m.bind (fun a ρ => .ok a ρ) = m := by cases m <;> rfl
/-- the rest of an expression is another one -/
theorem Post.last {α β : Type} {RA : St → Hp → Hp → β → α → List Addr → Prop} {m : Env → R α} {ρ1 : Env} {Q : β → Hp → Prop} {S0 : List Addr} (p : Post g W RA σ hid H F Q (m ρ1)) (r : Rel g H' σ ρ1 F0 (S0 ++ hid)) (x : Ext hid H (F ++ hid) H' (F0 ++ (S0 ++ hid)))
    (hm : ∀ {σ H Ho v o F Ho'}, RA σ H Ho v o F → Same Ho Ho' → RA σ H Ho' v o F) : sem g W RA m σ H' Q := by
  refine ⟨ρ1, F0, S0 ++ hid, r, Post.bind (G := S0) (k := fun a ρ => .ok a ρ) x (by rw [R.bind_ok]; exact p) fun o ρ2 H2 F2 G2 v r2 x2 v2 p2 => ?_⟩
  have sl : (G2 ++ hid).Sublist (G2 ++ (S0 ++ hid)) := List.Sublist.append_left (List.sublist_append_right _ _) G2
  have r3 : Rel g H2 σ ρ2 F2 ((G2 ++ S0) ++ hid) := by rw [List.append_assoc]; exact r2
  refine Post.fin (S0 := G2 ++ S0) p2 r3 (by rw [List.append_assoc]; exact Ext.trans x (x2.less fun c m => List.mem_append_right _ m)) (List.sublist_append_left _ _) (hm v2 (off_sub fun a m => ?_))
  exact (List.Sublist.append_left sl F2).subset m
theorem rv_hm {g : Gd} {σ : L2.St} {H Ho : Hp} {v : V} {o : Rv} {F : List Addr} {Ho' : Hp} (h : RV g σ H Ho v o F) (s : Same Ho Ho') : RV g σ H Ho' v o F := rv_mono h s fun _ _ => rfl
theorem rb_hm {σ : L2.St} {H Ho : Hp} {v o : Bool} {F : List Addr} {Ho' : Hp} (h : RB σ H Ho v o F) (s : Same Ho Ho') : RB σ H Ho' v o F := h
theorem sT_or {a b : Mb} {Q : Bool → Hp → Prop} (h : sT g W (mOrT a b) σ H Q) : tOr (sT g W a) (sT g W b) σ H Q := by
  obtain ⟨ρ, F, hid, r0, p⟩ := h
  refine ⟨ρ, F, hid, r0, Post.bind (G := []) Ext.refl p fun c ρ1 H1 F1 G1 v r1 x1 v1 p1 => ?_⟩
  obtain ⟨rfl, rfl⟩ := v1
  cases v with
  | true => exact Post.endT (S0 := []) p1 r1 x1
  | false => exact Post.last (S0 := []) (m := b) p1 r1 x1 rb_hm
theorem sT_not {a : Mb} {Q : Bool → Hp → Prop} (h : sT g W (mNotT a) σ H Q) : tNot (sT g W a) σ H Q := by
  obtain ⟨ρ, F, hid, r0, p⟩ := h
  refine ⟨ρ, F, hid, r0, Post.bind (G := []) Ext.refl p fun c ρ1 H1 F1 G1 v r1 x1 v1 p1 => ?_⟩
  obtain ⟨rfl, rfl⟩ := v1
  exact Post.endT (S0 := []) p1 r1 x1
theorem rv_bool {σ : L2.St} {v : V} {c : Bool} (h : RV g σ H Ho v (.o (.d (.bool c))) F) : v = .bl c ∧ F = [] := by
  cases h with
  | d h => cases h; exact ⟨rfl, rfl⟩
theorem sE_and {a b : M} {Q : V → Hp → Prop} (h : sE g W (mAndV a b) σ H Q) : tAndV (sE g W a) (sE g W b) σ H Q := by
  obtain ⟨ρ, F, hid, r0, p⟩ := h
  refine ⟨ρ, F, hid, r0, Post.bind (G := []) Ext.refl p fun x ρ1 H1 F1 G1 v r1 x1 v1 p1 => ?_⟩
  split at p1
  · rename_i c
    obtain ⟨rfl, rfl⟩ := rv_bool v1
    refine ⟨c, rfl, ?_⟩
    cases c with
    | false => exact Post.finD (S0 := []) p1 r1 x1 (.bl false)
    | true => exact Post.last (S0 := []) (m := b) p1 r1 x1 rv_hm
  · exact p1.elim
theorem sE_or {a b : M} {Q : V → Hp → Prop} (h : sE g W (mOrV a b) σ H Q) : tOrV (sE g W a) (sE g W b) σ H Q := by
  obtain ⟨ρ, F, hid, r0, p⟩ := h
  refine ⟨ρ, F, hid, r0, Post.bind (G := []) Ext.refl p fun x ρ1 H1 F1 G1 v r1 x1 v1 p1 => ?_⟩
  split at p1
  · rename_i c
    obtain ⟨rfl, rfl⟩ := rv_bool v1
    refine ⟨c, rfl, ?_⟩
    cases c with
    | true => exact Post.finD (S0 := []) p1 r1 x1 (.bl true)
    | false => exact Post.last (S0 := []) (m := b) p1 r1 x1 rv_hm
  · exact p1.elim
theorem sE_not {a : M} {Q : V → Hp → Prop} (h : sE g W (mNotV a) σ H Q) : tNotV (sE g W a) σ H Q := by
  obtain ⟨ρ, F, hid, r0, p⟩ := h
  refine ⟨ρ, F, hid, r0, Post.bind (G := []) Ext.refl p fun x ρ1 H1 F1 G1 v r1 x1 v1 p1 => ?_⟩
  split at p1
  · rename_i c
    obtain ⟨rfl, rfl⟩ := rv_bool v1
    exact ⟨c, rfl, Post.finD (S0 := []) p1 r1 x1 (.bl (!c))⟩
  · exact p1.elim
theorem sE_if {t : Mb} {a b : M} {Q : V → Hp → Prop} (h : sE g W (mIf t a b) σ H Q) : tIf (sT g W t) (sE g W a) (sE g W b) σ H Q := by
  obtain ⟨ρ, F, hid, r0, p⟩ := h
  refine ⟨ρ, F, hid, r0, Post.bind (G := []) Ext.refl p fun c ρ1 H1 F1 G1 v r1 x1 v1 p1 => ?_⟩
  obtain ⟨rfl, rfl⟩ := v1
  cases v with
  | true => exact Post.last (S0 := []) (m := a) p1 r1 x1 rv_hm
  | false => exact Post.last (S0 := []) (m := b) p1 r1 x1 rv_hm
/-- the wish of a first comparison whose answer is a truth value -/
theorem sE_chain {r r' : R2} {f f' : PyData → PyData → Option PyData} {ma mb mc : M} (op : Op2 g.K r f) (op' : Op2 g.K r' f') {Q : V → Hp → Prop} (h : sE g W (mChain f f' ma mb mc) σ H Q) :
    tChain r r' (sE g W ma) (sE g W mb) (sE g W mc) σ H Q := by
  obtain ⟨ρ, F, hid, r0, p⟩ := h
  refine ⟨ρ, F, hid, r0, Post.bind (G := []) Ext.refl p fun x ρ1 H1 F1 G1 v r1 x1 v1 p1 => ?_⟩
  refine ⟨ρ1, F1, G1 ++ hid, r1, Post.bind (G := G1) x1 p1 fun y ρ2 H2 F2 G2 w r2 x2 v2 p2 => ?_⟩
  unfold view2 at p2
  cases e1 : x.view ρ2 with
  | none => simp only [e1] at p2; exact p2.elim
  | some a =>
    cases e2 : y.view ρ2 with
    | none => simp only [e1, e2] at p2; exact p2.elim
    | some b =>
      simp only [e1, e2] at p2
      cases e3 : f a b with
      | none => simp only [e3] at p2; exact p2.elim
      | some z =>
        simp only [e3] at p2
        have o1 := rv_view v1 x2.op (fun c m => x2.hd c (List.mem_append_left _ m)) r2 e1
        have o2 := rv_view v2 (Same.refl _) (fun _ _ => rfl) r2 e2
        have r2' : Rel g H2 σ ρ2 F2 ((G2 ++ G1) ++ hid) := by rw [List.append_assoc]; exact r2
        have xx : Ext hid H (F ++ hid) H2 (F2 ++ ((G2 ++ G1) ++ hid)) := by
          rw [List.append_assoc]
          exact Ext.trans x1 (x2.less fun c m => List.mem_append_right _ m)
        rcases bools z with ⟨k, rfl⟩ | hz
        · -- the answer k; nothing new may lie in it, but a new object is no harm
          have goal : ∀ H3, Same H2 H3 → (∀ b, b ∈ F2 ++ (G2 ++ (G1 ++ hid)) → H3 b = H2 b) → ∃ k', (V.bl k) = .bl k' ∧ (if k' = true then sE g W mc σ H3 fun w' H4 => r' w w' H4 Q else Q (.bl false) H3) := fun H3 s3 k3 => by
            have r3 := r2'.same s3
            have x3 : Ext hid H (F ++ hid) H3 (F2 ++ ((G2 ++ G1) ++ hid)) := xx.trans ⟨off_same s3, fun c m => k3 c (List.mem_append_right _ (List.mem_append_right _ (List.mem_append_right _ m)))⟩
            refine ⟨k, rfl, ?_⟩
            cases k with
            | false =>
              rw [if_neg Bool.false_ne_true]
              exact Post.finD (S0 := G2 ++ G1) p2 r3 x3 (.bl false)
            | true =>
              rw [if_pos rfl]
              have p2 : Post g W (RV g) σ hid H F Q ((mc ρ2).bind fun z ρ3 => optR (view2 f' y z ρ3) ρ3) := p2
              refine ⟨ρ2, F2, (G2 ++ G1) ++ hid, r3, Post.bind (G := G2 ++ G1) x3 p2 fun z ρ3 H4 F4 G4 u r4 x4 v4 p4 => ?_⟩
              unfold view2 at p4
              cases e4 : y.view ρ3 with
              | none => simp only [e4] at p4; exact p4.elim
              | some b' =>
                cases e5 : z.view ρ3 with
                | none => simp only [e4, e5] at p4; exact p4.elim
                | some c' =>
                  simp only [e4, e5] at p4
                  cases e6 : f' b' c' with
                  | none => simp only [e6] at p4; exact p4.elim
                  | some z' =>
                    simp only [e6] at p4
                    have so : Same (off H2 (F2 ++ (G2 ++ (G1 ++ hid)))) (off H4 (F4 ++ (G4 ++ ((G2 ++ G1) ++ hid)))) := by
                      refine Same.trans ?_ x4.op
                      rw [List.append_assoc]
                      exact off_same s3
                    have o4 := rv_view v2 so (fun c m => (x4.hd c (List.mem_append_left _ (List.mem_append_left _ m))).trans (k3 c (List.mem_append_right _ (List.mem_append_left _ m)))) r4 e4
                    have o5 := rv_view v4 (Same.refl _) (fun _ _ => rfl) r4 e5
                    have r4' : Rel g H4 σ ρ3 F4 ((G4 ++ (G2 ++ G1)) ++ hid) := by rw [List.append_assoc]; exact r4
                    refine op' w u H4 _ Q b' c' z' off_le o4 o5 e6 ?_
                    have en := Post.endD p4 r4' (by rw [List.append_assoc]; exact Ext.trans x3 (x4.less fun c m => List.mem_append_right _ m))
                    rw [List.append_assoc] at en
                    exact en
          refine op v w H2 _ _ a b (.bool k) off_le o1 o2 e3 ⟨fun u d => ?_, fun q o u hn d => ?_⟩
          · cases d
            exact goal H2 (Same.refl _) fun _ _ => rfl
          · cases d
            exact goal _ (same_upd hn) fun c m => upd_ne fun z => r2.tr c m (z ▸ hn)
        · cases z <;> first | exact p2.elim | cases hz
end

/-! ### the rules -/
section
variable {X : Cx} {g : Gd} {W : XW} {a b c e : Expr} {es : List Expr} {ma mb mc m : M} {ms : Ms} {ta tb : Mb} {pos p : Pos} {x : Str}
theorem fe_tup {x1} (h : PA X es (sA g W ms)) : PE X (.Tuple es x1 pos) (sE g W (mTup ms)) := PE.imp (pe_tup h) fun _ _ _ q => sE_tup q
theorem fe_lstD (h : PA X es (sA g W ms)) : PE X (.List es pos) (sE g W (mLstD ms)) := PE.imp (pe_lst h) fun _ _ _ q => sE_lstD q
theorem fe_lstO (h : PA X es (sA g W ms)) : PE X (.List es pos) (sE g W (mLstO ms)) := PE.imp (pe_lst h) fun _ _ _ q => sE_lstO q
theorem fe_frz (h : PE X e (sE g W m)) : PE X e (sE g W (mFrz m)) := PE.imp h fun _ _ _ q => sE_frz q
theorem fe_callB {id : String} {r : List V → Hp → VK → Prop} {f : List PyData → Option PyData} (hc : CallR X (.builtin id) r) (op : OpN g.K r f) (hg : Gl X x) (hm : X.mg x = none) (hv : bootBuiltins x = some (.builtin id)) (ha : PA X (e :: es) (sA g W ms)) (hn : x ≠ "__name__" := by decide) (hdb : (x == ("__debug__" : Str)) = false := by decide) (hs : starEach (e :: es) X.env = (false, eval e X.env) :: starEach es X.env := by rfl) (hpl : (backTo pos (starEach es X.env)).any (·.1) = false := by rfl) : PE X (.Call (.Name x p) (e :: es) [] pos) (sE g W (mCallB f ms)) :=
  PE.imp (pe_callB hc hg hm hv ha hn hdb hs hpl) fun _ _ _ q => callN (ta := sA g W ms) op q
theorem fe_callTy {T : String} {r : List V → Hp → VK → Prop} {f : List PyData → Option PyData} (hc : CallR X (.type T) r) (op : OpN g.K r f) (hg : Gl X x) (hm : X.mg x = none) (hv : bootBuiltins x = some (.type T)) (ha : PA X (e :: es) (sA g W ms)) (hn : x ≠ "__name__" := by decide) (hdb : (x == ("__debug__" : Str)) = false := by decide) (hs : starEach (e :: es) X.env = (false, eval e X.env) :: starEach es X.env := by rfl) (hpl : (backTo pos (starEach es X.env)).any (·.1) = false := by rfl)
    : PE X (.Call (.Name x p) (e :: es) [] pos) (sE g W (mCallB f ms)) :=
  PE.imp (pe_callTy hc hg hm hv ha hn hdb hs hpl) fun _ _ _ q => callN (ta := sA g W ms) op q
theorem fe_callBL {id : String} {r : List V → Hp → VK → Prop} {f : List PyData → Option (List PyData)} (hc : CallR X (.builtin id) r) (op : OpL g.K r f) (hg : Gl X x) (hm : X.mg x = none) (hv : bootBuiltins x = some (.builtin id)) (ha : PA X (e :: es) (sA g W ms)) (hn : x ≠ "__name__" := by decide) (hdb : (x == ("__debug__" : Str)) = false := by decide) (hs : starEach (e :: es) X.env = (false, eval e X.env) :: starEach es X.env := by rfl) (hpl : (backTo pos (starEach es X.env)).any (·.1) = false := by rfl)
    : PE X (.Call (.Name x p) (e :: es) [] pos) (sE g W (mCallL f ms)) := PE.imp (pe_callB hc hg hm hv ha hn hdb hs hpl) fun _ _ _ q => callL op q
theorem fe_callTyL {T : String} {r : List V → Hp → VK → Prop} {f : List PyData → Option (List PyData)} (hc : CallR X (.type T) r) (op : OpL g.K r f) (hg : Gl X x) (hm : X.mg x = none) (hv : bootBuiltins x = some (.type T)) (ha : PA X (e :: es) (sA g W ms)) (hn : x ≠ "__name__" := by decide) (hdb : (x == ("__debug__" : Str)) = false := by decide) (hs : starEach (e :: es) X.env = (false, eval e X.env) :: starEach es X.env := by rfl) (hpl : (backTo pos (starEach es X.env)).any (·.1) = false := by rfl)
    : PE X (.Call (.Name x p) (e :: es) [] pos) (sE g W (mCallL f ms)) := PE.imp (pe_callTy hc hg hm hv ha hn hdb hs hpl) fun _ _ _ q => callL op q
theorem fe_ix {r : R2} {f : PyData → PyData → Option PyData} (hr : IxR X r) (op : Op2 g.K r f) (ha : PE X a (sE g W ma)) (hb : PE X b (sE g W mb)) (hs : PlainIx b) : PE X (.Subscript a b pos) (sE g W (mOp f ma mb)) :=
  PE.imp (pe_ix hr ha hb hs) fun _ _ _ q => two (ta := sE g W ma) (tb := sE g W mb) op q
/-- tests -/
theorem ft_cmp {op : CmpOp} {r : R2} {f : PyData → PyData → Option PyData} (ho : OpR X (compareOp op) r) (hf : Op2 g.K r f) (hm : behindInMarks op b = false) (ha : PE X a (sE g W ma)) (hb : PE X b (sE g W mb)) :
    PT X (.Compare a [op] [b] pos) (sT g W (mTst asB (mOp f ma mb))) := PT.imp (pt_cmpR ho ha hb hm) fun σ H Q q => by
  have q' := sT_bool q
  exact two (ta := sE g W ma) (tb := sE g W mb) hf q'
theorem ft_val (hg : g.K = X.K) (h : PE X e (sE g W m)) (he : ∀ whole, isTrue e X.env whole = (do let v ← whole; standAt e.pos; holding [v] (truthy v)) := by intro _; rfl) : PT X e (sT g W (mTst tru m)) :=
  PT.imp (pt_truth h he) fun σ H Q q => by
    have q' := sT_tru q
    rw [hg] at q'
    exact q'
theorem fw_and1 (h : PT X a (sT g W ta)) : PW X (.BoolOp .And [a] pos) (sT g W ta) := pw_and1 h
theorem fw_or1 (h : PT X a (sT g W ta)) : PW X (.BoolOp .Or [a] pos) (sT g W ta) := pw_or1 h
theorem fw_and {rest : List Expr} (h : PT X a (sT g W ta)) (h' : PW X (.BoolOp .And (b :: rest) pos) (sT g W tb)) : PW X (.BoolOp .And (a :: b :: rest) pos) (sT g W (mAndT ta tb)) := PW.imp (pw_and h h') fun _ _ _ q => sT_and q
theorem fw_or {rest : List Expr} (h : PT X a (sT g W ta)) (h' : PW X (.BoolOp .Or (b :: rest) pos) (sT g W tb)) : PW X (.BoolOp .Or (a :: b :: rest) pos) (sT g W (mOrT ta tb)) := PW.imp (pw_or h h') fun _ _ _ q => sT_or q
theorem ft_not (h : PT X a (sT g W ta)) : PT X (.UnaryOp .Not a pos) (sT g W (mNotT ta)) := PT.imp (pt_not h) fun _ _ _ q => sT_not q
theorem fe_one {op} (h : PE X a (sE g W ma)) : PE X (.BoolOp op [a] pos) (sE g W ma) := pe_one h
theorem fe_and {rest : List Expr} (h : PE X a (sE g W ma)) (h' : PE X (.BoolOp .And (b :: rest) pos) (sE g W mb)) : PE X (.BoolOp .And (a :: b :: rest) pos) (sE g W (mAndV ma mb)) := PE.imp (pe_and h h') fun _ _ _ q => sE_and q
theorem fe_or {rest : List Expr} (h : PE X a (sE g W ma)) (h' : PE X (.BoolOp .Or (b :: rest) pos) (sE g W mb)) : PE X (.BoolOp .Or (a :: b :: rest) pos) (sE g W (mOrV ma mb)) := PE.imp (pe_or h h') fun _ _ _ q => sE_or q
theorem fe_not (h : PE X a (sE g W ma)) : PE X (.UnaryOp .Not a pos) (sE g W (mNotV ma)) := PE.imp (pe_not h) fun _ _ _ q => sE_not q
theorem fe_if (ht : PT X c (sT g W ta)) (h : PE X a (sE g W ma)) (h' : PE X b (sE g W mb)) : PE X (.IfExp c a b pos) (sE g W (mIf ta ma mb)) := PE.imp (pe_ifExp ht h h') fun _ _ _ q => sE_if q
theorem fe_chain {op op' : CmpOp} {r r' : R2} {f f' : PyData → PyData → Option PyData} (ho : OpR X (compareOp op) r) (hf : Op2 g.K r f) (ho' : OpR X (compareOp op') r') (hf' : Op2 g.K r' f') (ha : PE X a (sE g W ma)) (hb : PE X b (sE g W mb)) (hc : PE X c (sE g W mc))
    (hm : lastMarks [op, op'] [b, c] = false := by with_unfolding_all rfl) : PE X (.Compare a [op, op'] [b, c] pos) (sE g W (mChain f f' ma mb mc)) := PE.imp (pe_chain ho ho' ha hb hc hm) fun _ _ _ q => sE_chain hf hf' q
theorem ft_chain {op op' : CmpOp} {r r' : R2} {f f' : PyData → PyData → Option PyData} (ho : OpR X (compareOp op) r) (hf : Op2 g.K r f) (ho' : OpR X (compareOp op') r') (hf' : Op2 g.K r' f') (ha : PE X a (sE g W ma)) (hb : PE X b (sE g W mb)) (hc : PE X c (sE g W mc))
    (hm : lastMarks [op, op'] [b, c] = false := by with_unfolding_all rfl) : PT X (.Compare a [op, op'] [b, c] pos) (sT g W (mTst asB (mChain f f' ma mb mc))) := PT.imp (pt_chain ho ho' ha hb hc hm) fun _ _ _ q => sE_chain hf hf' (sT_bool q)
end
end FL
end
section
set_option Elab.async false
set_option linter.all false
set_option maxRecDepth 100000
set_option autoImplicit false
namespace FL
open PySem L2

section
variable (g : Gd) (W : XW) (keep : List Nat)
def PostS (σ : L2.St) (hid : List Addr) (H : Hp) (F : List Addr) (D : Ends) : RS → Prop
  | .nx ρ' => ∀ H' F' σ', Rel g H' σ' ρ' F' hid → Ext hid H (F ++ hid) H' (F' ++ hid) → (∀ j ∈ keep, σ'[j]? = σ[j]?) → D.nx σ' H'
  | .bk ρ' => ∀ H' F' σ', Rel g H' σ' ρ' F' hid → Ext hid H (F ++ hid) H' (F' ++ hid) → (∀ j ∈ keep, σ'[j]? = σ[j]?) → D.bk σ' H'
  | .ct ρ' => ∀ H' F' σ', Rel g H' σ' ρ' F' hid → Ext hid H (F ++ hid) H' (F' ++ hid) → (∀ j ∈ keep, σ'[j]? = σ[j]?) → D.ct σ' H'
  | .rt o ρ' => ∀ H' F' F1 σ' v, Rel g H' σ' ρ' F' (F1 ++ hid) → Ext hid H (F ++ hid) H' (F' ++ (F1 ++ hid)) → (∀ j ∈ keep, σ'[j]? = σ[j]?) → RO g H' (off H' (F' ++ (F1 ++ hid))) v o F1 → D.rt v H'
  | .exc e ρ' => ∀ H' F' σ' cls dd, Rel g H' σ' ρ' F' hid → Ext hid H (F ++ hid) H' (F' ++ hid) → (∀ j ∈ keep, σ'[j]? = σ[j]?) → XR g H' (off H' (F' ++ hid)) e cls dd → W cls dd σ' H'
  | .bad => False
def sS (m : MS) : TS := fun D σ H => ∃ ρ F hid, Rel g H σ ρ F hid ∧ PostS g W keep σ hid H F D (m ρ)
end

/-! ### statements -/
def mSkip : MS := fun ρ => .nx ρ
def mSeq (a b : MS) : MS := fun ρ => match a ρ with | .nx ρ1 => b ρ1 | r => r
def R.toS {α : Type} (m : R α) (k : α → Env → RS) : RS := match m with
  | .ok a ρ => k a ρ
  | .exc e ρ => .exc e ρ
  | .bad => .bad
def mSet (i : Nat) (m : M) : MS := fun ρ => (m ρ).toS fun x ρ1 => match x with | .o o => .nx (ρ1.set i (some o)) | .s _ => .bad
def mExpr (m : M) : MS := fun ρ => (m ρ).toS fun _ ρ1 => .nx ρ1
def mRet (m : M) : MS := fun ρ => (m ρ).toS fun x ρ1 => match x with | .o o => .rt o ρ1 | .s _ => .bad
def mRetN : MS := fun ρ => .rt (.d .none) ρ
def mIfS (t : Mb) (a b : MS) : MS := fun ρ => (t ρ).toS fun c ρ1 => if c = true then a ρ1 else b ρ1
def mBreak : MS := fun ρ => .bk ρ
def mCont : MS := fun ρ => .ct ρ
def mBad : MS := fun _ => .bad
def whileL (t : Mb) (b : MS) : Nat → MS
  | 0, _ => .bad
  | n + 1, ρ => (t ρ).toS fun c ρ1 => if c = true then (match b ρ1 with
      | .nx ρ2 => whileL t b n ρ2
      | .ct ρ2 => whileL t b n ρ2
      | .bk ρ2 => .nx ρ2
      | r => r) else .nx ρ1
/-- targets: a name; a tuple of names -/
inductive Tg where
  | n (i : Nat)
  | t (is : List Nat)
def setAll : List Nat → List PyData → Env → Env
  | i :: is, x :: xs, ρ => setAll is xs (ρ.set i (some (.d x)))
  | _, _, ρ => ρ
def Tg.put : Tg → PyData → Env → Option Env
  | .n i, x, ρ => some (ρ.set i (some (.d x)))
  | .t is, .tuple xs, ρ => if decide (xs.length = is.length) = true then some (setAll is xs ρ) else none
  | _, _, _ => none
def Tg.putL : List Nat → PyData → Env → Option Env
  | is, .list xs, ρ => if decide (xs.length = is.length) = true then some (setAll is xs ρ) else none
  | _, _, _ => none
def Tg.slots : Tg → List Nat
  | .n i => [i]
  | .t is => is
def mSetT (f : PyData → Env → Option Env) (m : M) : MS := fun ρ => (m ρ).toS fun x ρ1 => match x.datR with
  | some y => match f y ρ1 with | some ρ2 => .nx ρ2 | none => .bad
  | none => .bad
/-- what is walked: its items -/
abbrev Mi := Env → R (List PyData)
def forL (tg : Tg) (b : MS) : List PyData → MS
  | [], ρ => .nx ρ
  | d :: ds, ρ => match tg.put d ρ with
    | none => .bad
    | some ρ1 => match b ρ1 with
      | .nx ρ2 => forL tg b ds ρ2
      | .ct ρ2 => forL tg b ds ρ2
      | .bk ρ2 => .nx ρ2
      | r => r
def mFor (mi : Mi) (tg : Tg) (b : MS) : MS := fun ρ => (mi ρ).toS fun ds ρ1 => forL tg b ds ρ1

section
variable {g : Gd} {W : XW} {keep : List Nat} {σ σ' : L2.St} {ρ ρ' : Env} {H H0 H' Ho Ho' : Hp} {F F0 G hid F1 S S' : List Addr} {D : Ends}
/-- from a later state -/
theorem PostS.shift {r : RS} (h : PostS g W keep σ hid H F D r) (x : Ext hid H (F ++ hid) H' (F0 ++ hid)) (k : ∀ j ∈ keep, σ'[j]? = σ[j]?) : PostS g W keep σ' hid H' F0 D r := by
  cases r with
  | nx ρ' => exact fun H2 F2 σ2 r2 x2 k2 => h H2 F2 σ2 r2 (x.trans x2) fun j m => (k2 j m).trans (k j m)
  | bk ρ' => exact fun H2 F2 σ2 r2 x2 k2 => h H2 F2 σ2 r2 (x.trans x2) fun j m => (k2 j m).trans (k j m)
  | ct ρ' => exact fun H2 F2 σ2 r2 x2 k2 => h H2 F2 σ2 r2 (x.trans x2) fun j m => (k2 j m).trans (k j m)
  | rt o ρ' => exact fun H2 F2 G2 σ2 v r2 x2 k2 ro => h H2 F2 G2 σ2 v r2 (x.trans x2) (fun j m => (k2 j m).trans (k j m)) ro
  | exc e ρ' => exact fun H2 F2 σ2 cls dd r2 x2 k2 xr => h H2 F2 σ2 cls dd r2 (x.trans x2) (fun j m => (k2 j m).trans (k j m)) xr
  | bad => exact h
/-- an expression in a statement -/
theorem Post.toS {α β : Type} {RA : L2.St → Hp → Hp → β → α → List Addr → Prop} {m : R α} {k : α → Env → RS} {Q1 : β → Hp → Prop} (h : PostS g W keep σ hid H F D (m.toS k))
    (hk : ∀ o ρ' H' F' F1 v, Rel g H' σ ρ' F' (F1 ++ hid) → Ext hid H (F ++ hid) H' (F' ++ (F1 ++ hid)) → RA σ H' (off H' (F' ++ (F1 ++ hid))) v o F1 → PostS g W keep σ hid H F D (k o ρ') → Q1 v H') :
    Post g W RA σ hid H F Q1 m := by
  cases m with
  | ok o ρ' => exact fun H' F' F1 v r' x' ra => hk o ρ' H' F' F1 v r' x' ra h
  | exc e ρ' => exact fun H' F' cls dd r' x' xr => h H' F' σ cls dd r' x' (fun _ _ => rfl) xr
  | bad => exact h
theorem ext_drop (x : Ext hid H (F ++ hid) H' (F0 ++ (F1 ++ hid))) : Ext hid H (F ++ hid) H' (F0 ++ hid) :=
  x.trans (Ext.sub fun a m => (List.mem_append.mp m).elim (List.mem_append_left _) fun z => List.mem_append_right _ (List.mem_append_right _ z))
theorem rel_drop (r : Rel g H σ ρ F (F1 ++ hid)) : Rel g H σ ρ F hid := r.unhide (List.sublist_append_right F1 hid)

theorem sS_skip (h : sS g W keep mSkip D σ H) : D.nx σ H := by
  obtain ⟨ρ, F, hid, r, p⟩ := h
  exact p H F σ r Ext.refl fun _ _ => rfl
theorem sS_break (h : sS g W keep mBreak D σ H) : D.bk σ H := by
  obtain ⟨ρ, F, hid, r, p⟩ := h
  exact p H F σ r Ext.refl fun _ _ => rfl
theorem sS_cont (h : sS g W keep mCont D σ H) : D.ct σ H := by
  obtain ⟨ρ, F, hid, r, p⟩ := h
  exact p H F σ r Ext.refl fun _ _ => rfl
theorem sS_retN (h : sS g W keep mRetN D σ H) : D.rt .non H := by
  obtain ⟨ρ, F, hid, r, p⟩ := h
  exact p H F [] σ .non r Ext.refl (fun _ _ => rfl) (.d .non)
theorem sS_seq {a b : MS} (h : sS g W keep (mSeq a b) D σ H) : sS g W keep a { D with nx := sS g W keep b D } σ H := by
  obtain ⟨ρ, F, hid, r, p⟩ := h
  refine ⟨ρ, F, hid, r, ?_⟩
  unfold mSeq at p
  cases e : a ρ with
  | nx ρ1 =>
    rw [e] at p
    exact fun H' F' σ' r' x' k' => ⟨ρ1, F', hid, r', PostS.shift p x' k'⟩
  | bk ρ' => rw [e] at p; exact p
  | ct ρ' => rw [e] at p; exact p
  | rt o ρ' => rw [e] at p; exact p
  | exc e' ρ' => rw [e] at p; exact p
  | bad => rw [e] at p; exact p
/-- a slot set -/
theorem Rel.put {i : Nat} {v : V} {o : O} (r : Rel g H σ ρ F (F1 ++ hid)) (ro : RO g H (off H (F ++ (F1 ++ hid))) v o F1) : ∃ F', Rel g H (σ.set i (some v)) (ρ.set i (some o)) F' hid ∧ ∀ a ∈ F' ++ hid, a ∈ F ++ (F1 ++ hid) := by
  obtain ⟨_, G, g1, g2, g2', g3⟩ := REnv.put i r.env
  obtain ⟨n1, n2, n3⟩ := List.nodup_append.mp r.nd
  have sub : ∀ a ∈ G ++ (F1 ++ hid), a ∈ F ++ (F1 ++ hid) := fun a m => (List.mem_append.mp m).elim (fun z => List.mem_append_left _ (g1 a z)) fun z => List.mem_append_right _ z
  have nd : (G ++ (F1 ++ hid)).Nodup := List.nodup_append.mpr ⟨g2 n1, n2, fun a m b m' => n3 a (g1 a m) b m'⟩
  by_cases hi : i < σ.length
  · obtain ⟨F', p, re⟩ := g3 v o F1 hi ro
    have pp : (G ++ (F1 ++ hid)).Perm (F' ++ hid) := by
      rw [← List.append_assoc]
      exact List.Perm.append_right hid (List.perm_append_comm.trans p.symm)
    refine ⟨F', Rel.congrF (S := G ++ (F1 ++ hid)) (renv_mono (off_sub sub) re fun _ _ => rfl) nd (fun a m => r.tr a (sub a m)) pp, fun a m => sub a (pp.mem_iff.mpr m)⟩
  · have e1 : σ.set i (some v) = σ := List.set_eq_of_length_le (by omega)
    have e2 : ρ.set i (some o) = ρ := List.set_eq_of_length_le (by rw [← r.env.length]; omega)
    rw [e1, e2]
    exact ⟨F, rel_drop r, fun a m => (List.mem_append.mp m).elim (List.mem_append_left _) fun z => List.mem_append_right _ (List.mem_append_right _ z)⟩
theorem keep_set {i : Nat} {x : Option V} (hi : i ∉ keep) : ∀ j ∈ keep, (σ.set i x)[j]? = σ[j]? := fun j m => List.getElem?_set_ne fun z => hi (by rw [z]; exact m)
theorem sS_set {i : Nat} {m : M} (hi : i ∉ keep) (h : sS g W keep (mSet i m) D σ H) : tAsg (sE g W m) (gName i) D σ H := by
  obtain ⟨ρ, F, hid, r, p⟩ := h
  refine ⟨ρ, F, hid, r, Post.toS p fun x ρ1 H1 F1 G1 v r1 x1 v1 p1 => ?_⟩
  cases x with
  | s j => exact p1.elim
  | o o =>
    obtain ⟨F', r2, sub⟩ := r1.put (i := i) v1
    exact p1 H1 F' (σ.set i (some v)) r2 (x1.trans (Ext.sub sub)) (keep_set hi)
theorem sS_expr {m : M} (h : sS g W keep (mExpr m) D σ H) : tDrop (sE g W m) D σ H := by
  obtain ⟨ρ, F, hid, r, p⟩ := h
  exact ⟨ρ, F, hid, r, Post.toS p fun x ρ1 H1 F1 G1 v r1 x1 v1 p1 => p1 H1 F1 σ (rel_drop r1) (ext_drop x1) fun _ _ => rfl⟩
theorem sS_ret {m : M} (h : sS g W keep (mRet m) D σ H) : tRet (sE g W m) D σ H := by
  obtain ⟨ρ, F, hid, r, p⟩ := h
  refine ⟨ρ, F, hid, r, Post.toS p fun x ρ1 H1 F1 G1 v r1 x1 v1 p1 => ?_⟩
  cases x with
  | s j => exact p1.elim
  | o o => exact p1 H1 F1 G1 σ v r1 x1 (fun _ _ => rfl) v1
theorem sS_if {t : Mb} {a b : MS} (h : sS g W keep (mIfS t a b) D σ H) : tIfS (sT g W t) (sS g W keep a) (sS g W keep b) D σ H := by
  obtain ⟨ρ, F, hid, r, p⟩ := h
  refine ⟨ρ, F, hid, r, Post.toS p fun c ρ1 H1 F1 G1 v r1 x1 v1 p1 => ?_⟩
  obtain ⟨rfl, rfl⟩ := v1
  cases v with
  | true => exact ⟨ρ1, F1, hid, r1, PostS.shift p1 x1 fun _ _ => rfl⟩
  | false => exact ⟨ρ1, F1, hid, r1, PostS.shift p1 x1 fun _ _ => rfl⟩
theorem sS_while {n : Nat} {t : Mb} {b : MS} (h : sS g W keep (whileL t b n) D σ H) : tWhile (sT g W t) (sS g W keep b) D σ H := by
  obtain ⟨ρ, F, hid, r, p⟩ := h
  refine ⟨fun m σ1 H1 => ∃ ρ1 F1, Rel g H1 σ1 ρ1 F1 hid ∧ PostS g W keep σ1 hid H1 F1 D (whileL t b m ρ1), ⟨n, ρ, F, r, p⟩, ?_⟩
  rintro m σ1 H1 ⟨ρ1, F1, r1, p1⟩
  cases m with
  | zero => exact p1.elim
  | succ m =>
    refine ⟨ρ1, F1, hid, r1, Post.toS p1 fun c ρ2 H2 F2 G2 v r2 x2 v2 p2 => ?_⟩
    obtain ⟨rfl, rfl⟩ := v2
    cases v with
    | false =>
      rw [if_neg Bool.false_ne_true] at p2 ⊢
      exact p2 H2 F2 σ1 r2 x2 fun _ _ => rfl
    | true =>
      rw [if_pos rfl] at p2 ⊢
      refine ⟨fun σ3 H3 => ∃ ρ3 F3, Rel g H3 σ3 ρ3 F3 hid ∧ PostS g W keep σ3 hid H3 F3 D (whileL t b m ρ3), fun σ3 H3 h3 => ⟨m, Nat.lt_succ_self m, h3⟩, ρ2, F2, hid, r2, ?_⟩
      have p2 := PostS.shift (σ' := σ1) p2 x2 fun _ _ => rfl
      cases e : b ρ2 with
      | nx ρ3 =>
        rw [e] at p2
        exact fun H' F' σ' r' x' k' => ⟨ρ3, F', r', PostS.shift p2 x' k'⟩
      | ct ρ3 =>
        rw [e] at p2
        exact fun H' F' σ' r' x' k' => ⟨ρ3, F', r', PostS.shift p2 x' k'⟩
      | bk ρ3 => rw [e] at p2; exact p2
      | rt o ρ3 => rw [e] at p2; exact p2
      | exc e' ρ3 => rw [e] at p2; exact p2
      | bad => rw [e] at p2; exact p2

/-! ### targets -/
def gSlots : List Nat → TGs
  | [] => gNil
  | i :: is => gCons (gName i) (gSlots is)
def gOf (K : PySem.W.Frag) : Tg → TG
  | .n i => gName i
  | .t is => gTup K is.length (gSlots is)
theorem wipe_aux {σ : L2.St} {i j : Nat} {x : Option V} (hj : i ≠ j) : ∀ {ys : List Nat}, (wipe (σ.set i x) ys)[j]? = (wipe σ ys)[j]? := by
  intro ys
  induction ys with
  | nil => exact List.getElem?_set_ne hj
  | cons y ys ih =>
    show ((wipe (σ.set i x) ys).set y none)[j]? = ((wipe σ ys).set y none)[j]?
    by_cases hy : y = j
    · subst hy
      have l1 : (wipe (σ.set i x) ys).length = (wipe σ ys).length := by rw [wipe_length, wipe_length, List.length_set]
      by_cases hl : y < (wipe σ ys).length
      · rw [List.getElem?_set_self hl, List.getElem?_set_self (by omega)]
      · rw [List.getElem?_eq_none (by rw [List.length_set]; omega), List.getElem?_eq_none (by rw [List.length_set]; omega)]
    · rw [List.getElem?_set_ne hy, List.getElem?_set_ne hy]
      exact ih
theorem wipe_set {σ : L2.St} {i : Nat} {x : Option V} : ∀ {ys : List Nat}, i ∈ ys → wipe (σ.set i x) ys = wipe σ ys := by
  intro ys h
  induction ys with
  | nil => cases h
  | cons y ys ih =>
    show (wipe (σ.set i x) ys).set y none = (wipe σ ys).set y none
    by_cases hm : i ∈ ys
    · rw [ih hm]
    · have e : i = y := by
        rcases List.mem_cons.mp h with h | h
        · exact h
        · exact absurd h hm
      subst e
      apply List.ext_getElem?
      intro j
      by_cases hj : i = j
      · subst hj
        have l1 : (wipe (σ.set i x) ys).length = (wipe σ ys).length := by rw [wipe_length, wipe_length, List.length_set]
        by_cases hl : i < (wipe σ ys).length
        · rw [List.getElem?_set_self hl, List.getElem?_set_self (by omega)]
        · rw [List.getElem?_eq_none (by rw [List.length_set]; omega), List.getElem?_eq_none (by rw [List.length_set]; omega)]
      · rw [List.getElem?_set_ne hj, List.getElem?_set_ne hj]
        exact wipe_aux hj
theorem gSlots_ok : ∀ (is : List Nat) {vs : List V} {xs : List PyData} {σ : L2.St} {ρ : Env} {F : List Addr} {Q : L2.St → Hp → Prop}, vs.length = is.length → DpAll g.K (off H (F ++ hid)) vs xs → Rel g H σ ρ F hid → (∀ i ∈ is, i ∉ keep) →
    (∀ σ' F', Rel g H σ' (setAll is xs ρ) F' hid → (∀ a ∈ F' ++ hid, a ∈ F ++ hid) → (∀ j ∈ keep, σ'[j]? = σ[j]?) → (∀ ys : List Nat, (∀ i ∈ is, i ∈ ys) → wipe σ' ys = wipe σ ys) → Q σ' H) → gSlots is vs σ H Q
  | [], [], _, σ, _, F, _, _, h, r, _, k => by
    cases h
    exact ⟨rfl, k σ F r (fun _ m => m) (fun _ _ => rfl) fun _ _ => rfl⟩
  | i :: is, v :: vs, _, σ, ρ, F, Q, hl, h, r, hk, k => by
    cases h with
    | cons h t =>
      obtain ⟨F', r2, sub⟩ := Rel.put (F1 := []) (i := i) (hid := hid) r (RO.d h)
      refine ⟨v, vs, rfl, gSlots_ok is (by simpa using hl) (dpAll_mono (off_sub sub) t) r2 (fun j m => hk j (List.mem_cons_of_mem _ m)) fun σ' F2 r3 s3 k3 w3 => k σ' F2 r3 (fun a m => sub a (s3 a m)) (fun j m => (k3 j m).trans (keep_set (hk i List.mem_cons_self) j m)) fun ys hy => ?_⟩
      rw [w3 ys fun j m => hy j (List.mem_cons_of_mem _ m)]
      exact wipe_set (hy i List.mem_cons_self)
  | [], _ :: _, _, _, _, _, _, hl, _, _, _, _ => by simp at hl
  | _ :: _, [], _, _, _, _, _, hl, _, _, _, _ => by simp at hl
/-- a target given data -/
theorem gOf_ok {tg : Tg} {v : V} {x : PyData} {ρ1 : Env} {Q : L2.St → Hp → Prop} (e : tg.put x ρ = some ρ1) (h : Dp g.K (off H (F ++ hid)) v x) (r : Rel g H σ ρ F hid) (hk : ∀ i ∈ tg.slots, i ∉ keep)
    (k : ∀ σ' F', Rel g H σ' ρ1 F' hid → (∀ a ∈ F' ++ hid, a ∈ F ++ hid) → (∀ j ∈ keep, σ'[j]? = σ[j]?) → (∀ ys : List Nat, (∀ i ∈ tg.slots, i ∈ ys) → wipe σ' ys = wipe σ ys) → Q σ' H) : gOf g.K tg v σ H Q := by
  cases tg with
  | n i =>
    cases e
    obtain ⟨F', r2, sub⟩ := Rel.put (F1 := []) (i := i) (hid := hid) r (RO.d h)
    exact k _ F' r2 sub (keep_set (hk i (by simp [Tg.slots]))) fun ys hy => wipe_set (hy i (by simp [Tg.slots]))
  | t is =>
    cases x with
    | tuple xs =>
      have e : (if decide (xs.length = is.length) = true then some (setAll is xs ρ) else none) = some ρ1 := e
      split at e
      · rename_i hl
        cases e
        have hl := of_decide_eq_true hl
        cases h with
        | tup hs ha =>
          have l := DpAll.length ha
          exact ⟨_, _, rfl, Same.sqT off_le hs, l.trans hl, gSlots_ok is (l.trans hl) ha r hk k⟩
      · cases e
    | _ => cases e

/-! ### what is walked -/
/-- where nothing open is changed and the heap B stands, J yields the items -/
structure Yl (K : PySem.W.Frag) (J : It) (items : List PyData) (B Bo : Hp) : Prop where
  go : ∀ i H, i < items.length → Same B H → J.go i H
  stop : ∀ H, Same B H → J.stop items.length H
  yld : ∀ i H x H' d, items[i]? = some d → Same B H → J.yld i H x H' →
    (H' = H ∧ ∀ Ho, Same Bo Ho → Dp K Ho x d) ∨ ∃ T u, H T = none ∧ H' = upd H T u ∧ ∀ Ho, Same Bo Ho → Ho T = none → Dp K (upd Ho T u) x d
def RI (g : Gd) : L2.St → Hp → Hp → It → List PyData → List Addr → Prop := fun _ _ Ho J items F1 => F1 = [] ∧ Yl g.K J items Ho Ho
abbrev sI (g : Gd) (W : XW) (mi : Mi) : TI := fun σ H R => sem g W (RI g) mi σ H R
theorem yl_mono {K : PySem.W.Frag} {J : It} {items : List PyData} {B Bo B' Bo' : Hp} (y : Yl K J items B Bo) (s : Same B B') (s' : Same Bo Bo') : Yl K J items B' Bo' :=
  ⟨fun i H hi h => y.go i H hi (s.trans h), fun H h => y.stop H (s.trans h), fun i H x H' d hd h hy => (y.yld i H x H' d hd (s.trans h) hy).elim (fun ⟨e, k⟩ => .inl ⟨e, fun Ho h => k Ho (s'.trans h)⟩) fun ⟨T, u, hn, e, k⟩ => .inr ⟨T, u, hn, e, fun Ho h => k Ho (s'.trans h)⟩⟩
/-- at a turn: the item, the state -/
theorem Yl.at {J : It} {items : List PyData} {B Bo : Hp} (y : Yl g.K J items B Bo) {i : Nat} {x : V} {d : PyData} (hd : items[i]? = some d) (hs : Same B H) (ho : Same Bo (off H (F ++ hid))) (hy : J.yld i H x H') (r : Rel g H σ ρ F hid) :
    Rel g H' σ ρ F hid ∧ Ext hid H (F ++ hid) H' (F ++ hid) ∧ Dp g.K (off H' (F ++ hid)) x d ∧ Same H H' := by
  rcases y.yld i H x H' d hd hs hy with ⟨rfl, k⟩ | ⟨T, u, hn, rfl, k⟩
  · exact ⟨r, Ext.refl, k _ ho, Same.refl _⟩
  · have np := r.fresh hn
    have eo : upd (off H (F ++ hid)) T u = off (upd H T u) (F ++ hid) := by
      funext b
      unfold off
      by_cases hb : b = T
      · subst hb
        rw [upd_same, if_neg np, upd_same]
      · rw [upd_ne hb, upd_ne hb]
    refine ⟨r.same (same_upd hn), Ext.upd hn r.hidT, ?_, same_upd hn⟩
    rw [← eo]
    refine k _ ho ?_
    unfold off
    rw [if_neg np]
    exact hn
theorem sS_for {mi : Mi} {tg : Tg} {b : MS} (hk : ∀ i ∈ tg.slots, i ∉ keep) (h : sS g W keep (mFor mi tg b) D σ H) : tFor (sI g W mi) (gOf g.K tg) (sS g W keep b) D σ H := by
  obtain ⟨ρ, F, hid, r, p⟩ := h
  refine ⟨ρ, F, hid, r, Post.toS p fun items ρ1 H1 F1 G1 J r1 x1 v1 p1 => ?_⟩
  obtain ⟨rfl, yl⟩ := v1
  have r1 : Rel g H1 σ ρ1 F1 hid := r1
  have x1 : Ext hid H (F ++ hid) H1 (F1 ++ hid) := x1
  have p1 := PostS.shift (σ' := σ) p1 x1 fun _ _ => rfl
  have yl : Yl g.K J items (off H1 (F1 ++ hid)) (off H1 (F1 ++ hid)) := yl
  refine ⟨fun i m σ2 H2 => m = items.length - i ∧ i ≤ items.length ∧ ∃ ρ2 F2, Rel g H2 σ2 ρ2 F2 hid ∧ Ext hid H1 (F1 ++ hid) H2 (F2 ++ hid) ∧ PostS g W keep σ2 hid H2 F2 D (forL tg b (items.drop i) ρ2),
    ⟨items.length, by simp, Nat.zero_le _, ρ1, F1, r1, Ext.refl, by rw [List.drop_zero]; exact p1⟩, ?_⟩
  rintro i m σ2 H2 ⟨rfl, hi, ρ2, F2, r2, x2, p2⟩
  have s2 : Same (off H1 (F1 ++ hid)) H2 := x2.op.trans off_le
  by_cases hlt : i < items.length
  · refine .inr ⟨yl.go i H2 hlt s2, fun σ3 H3 => ∃ ρ3 F3, Rel g H3 σ3 ρ3 F3 hid ∧ Ext hid H1 (F1 ++ hid) H3 (F3 ++ hid) ∧ PostS g W keep σ3 hid H3 F3 D (forL tg b (items.drop (i + 1)) ρ3),
      fun σ3 H3 h3 => ⟨items.length - (i + 1), by omega, rfl, hlt, h3⟩, fun x H3 hy => ?_⟩
    have hd : items[i]? = some items[i] := by simp [hlt]
    obtain ⟨r3, x3, d3, _⟩ := Yl.at yl hd s2 x2.op hy r2
    rw [List.drop_eq_getElem_cons hlt] at p2
    unfold forL at p2
    cases e : tg.put items[i] ρ2 with
    | none => simp only [e] at p2; exact p2.elim
    | some ρ3 =>
      simp only [e] at p2
      refine gOf_ok e d3 r3 hk fun σ4 F4 r4 sub4 k4 _ => ⟨ρ3, F4, hid, r4, ?_⟩
      have x4 : Ext hid H2 (F2 ++ hid) H3 (F4 ++ hid) := x3.trans (Ext.sub sub4)
      have p4 := PostS.shift p2 x4 k4
      cases e2 : b ρ3 with
      | nx ρ5 =>
        rw [e2] at p4
        exact fun H' F' σ' r' x' k' => ⟨ρ5, F', r', (x2.trans x4).trans x', PostS.shift p4 x' k'⟩
      | ct ρ5 =>
        rw [e2] at p4
        exact fun H' F' σ' r' x' k' => ⟨ρ5, F', r', (x2.trans x4).trans x', PostS.shift p4 x' k'⟩
      | bk ρ5 => rw [e2] at p4; exact p4
      | rt o ρ5 => rw [e2] at p4; exact p4
      | exc e' ρ5 => rw [e2] at p4; exact p4
      | bad => rw [e2] at p4; exact p4
  · have e : i = items.length := by omega
    subst e
    rw [List.drop_length] at p2
    exact .inl ⟨yl.stop H2 s2, p2 H2 F2 σ2 r2 Ext.refl fun _ _ => rfl⟩
end
end FL
end
section
set_option Elab.async false
set_option linter.all false
set_option maxRecDepth 100000
set_option autoImplicit false
namespace FL
open PySem L2

/-! ### slots of a comprehension's own names -/
def wipeE (ρ : Env) : List Nat → Env
  | [] => ρ
  | v :: vs => (wipeE ρ vs).set v none
/-- nothing is owned there -/
def dataAt (ρ : Env) (v : Nat) : Bool := match ρ[v]? with
  | some (some (.d _)) => true
  | some (some (.tf _)) => true
  | some (some (.rg _ _)) => true
  | some none => true
  | none => true
  | _ => false
def dataSlots (ρ : Env) (vs : List Nat) : Bool := vs.all (dataAt ρ)

section
variable {g : Gd} {W : XW} {σ σ' : L2.St} {ρ ρ' : Env} {H H0 H' Ho Ho' : Hp} {F F0 G hid F1 S S' : List Addr}
theorem renv_unset : ∀ {σ : L2.St} {ρ : Env} {F : List Addr} (i : Nat), REnv g H Ho σ ρ F → dataAt ρ i = true → REnv g H Ho (σ.set i none) (ρ.set i none) F
  | _, _, _, _, .nil, _ => .nil
  | _, _, _, 0, .gap h, _ => .gap h
  | _, _, _, 0, .has (o := o) h r, e => by
    cases h with
    | d h => exact .gap r
    | lst h1 h2 => cases e
    | dK h1 h2 h3 => cases e
    | dT h1 h2 h3 => cases e
    | ins h1 h2 h3 => cases e
    | tf h1 h2 h3 => exact .gap r
    | rg h1 => exact .gap r
  | _, _, _, i + 1, .gap h, e => .gap (renv_unset i h (by simpa [dataAt] using e))
  | _, _, _, i + 1, .has h r, e => .has h (renv_unset i r (by simpa [dataAt] using e))
theorem renv_gap : ∀ {σ : L2.St} {ρ : Env} {F : List Addr} (i : Nat) (x : Option V), REnv g H Ho (σ.set i x) ρ F → (ρ[i]? = some none ∨ ρ[i]? = none) → REnv g H Ho σ ρ F
  | [], _, _, _, _, h, _ => h
  | y :: σ, [], _, 0, x, h, _ => by cases h
  | y :: σ, o :: ρ, _, 0, x, h, e => by
    rcases e with e | e
    · simp at e
      subst e
      cases h with
      | gap h => exact .gap h
    · simp at e
  | y :: σ, ρ, _, i + 1, x, h, e => by
    have h2 : REnv g H Ho (y :: σ.set i x) ρ _ := h
    clear h
    cases h2 with
    | gap a => exact .gap (renv_gap i x a (by simpa using e))
    | has a b => exact .has a (renv_gap i x b (by simpa using e))
theorem wipeE_length (ρ : Env) : ∀ vs : List Nat, (wipeE ρ vs).length = ρ.length
  | [] => rfl
  | v :: vs => by unfold wipeE; rw [List.length_set, wipeE_length ρ vs]
theorem wipeE_in (ρ : Env) : ∀ {vs : List Nat} {v : Nat}, v ∈ vs → (wipeE ρ vs)[v]? = some none ∨ (wipeE ρ vs)[v]? = none
  | w :: vs, v, h => by
    unfold wipeE
    by_cases e : w = v
    · subst e
      by_cases hl : w < (wipeE ρ vs).length
      · exact .inl (List.getElem?_set_self hl)
      · exact .inr (List.getElem?_eq_none (by rw [List.length_set]; omega))
    · rw [List.getElem?_set_ne e]
      rcases List.mem_cons.mp h with h | h
      · exact absurd h.symm e
      · exact wipeE_in ρ h
theorem wipeE_data (ρ : Env) {v : Nat} (h : dataAt ρ v = true) : ∀ vs : List Nat, dataAt (wipeE ρ vs) v = true
  | [] => h
  | w :: vs => by
    unfold wipeE dataAt
    by_cases e : w = v
    · subst e
      by_cases hl : w < (wipeE ρ vs).length
      · rw [List.getElem?_set_self hl]
      · rw [List.getElem?_eq_none (by rw [List.length_set]; omega)]
    · rw [List.getElem?_set_ne e]
      exact wipeE_data ρ h vs
theorem renv_wipe (h : REnv g H Ho σ ρ F) : ∀ vs : List Nat, dataSlots ρ vs = true → REnv g H Ho (wipe σ vs) (wipeE ρ vs) F
  | [], _ => h
  | v :: vs, d => by
    unfold dataSlots at d
    rw [List.all_cons, Bool.and_eq_true] at d
    exact renv_unset v (renv_wipe h vs d.2) (wipeE_data ρ d.1 vs)
/-- the own names' values are back, untold -/
theorem renv_unwipe {ρ : Env} : ∀ (vs : List Nat), REnv g H Ho (wipe σ vs) ρ F → (∀ v ∈ vs, ρ[v]? = some none ∨ ρ[v]? = none) → REnv g H Ho σ ρ F
  | [], h, _ => h
  | v :: vs, h, e => renv_unwipe vs (renv_gap v none h (e v List.mem_cons_self)) fun w m => e w (List.mem_cons_of_mem _ m)
theorem Rel.wipe (r : Rel g H σ ρ F hid) {vs : List Nat} (d : dataSlots ρ vs = true) : Rel g H (L2.wipe σ vs) (wipeE ρ vs) F hid := ⟨renv_wipe r.env vs d, r.nd, r.tr⟩
theorem Rel.unwipe {vs : List Nat} (r : Rel g H (L2.wipe σ vs) (wipeE ρ vs) F hid) : Rel g H σ (wipeE ρ vs) F hid := ⟨renv_unwipe vs r.env fun v m => wipeE_in ρ m, r.nd, r.tr⟩
end

/-! ### comprehensions -/
def lcL (tg : Tg) (vs : List Nat) (c : Mb) (e : M) : List PyData → Env → Option (List O × Env)
  | [], ρ => some ([], ρ)
  | d :: ds, ρ => match tg.put d ρ with
    | none => none
    | some ρ1 => match c ρ1 with
      | .ok b ρ2 => if b = true then (match e ρ2 with
          | .ok x ρ3 => match x.own with
            | some o => if dataSlots ρ3 vs = true then (match lcL tg vs c e ds (wipeE ρ3 vs) with
              | some (os, ρ4) => some (o :: os, ρ4)
              | none => none) else none
            | none => none
          | _ => none) else if dataSlots ρ2 vs = true then lcL tg vs c e ds (wipeE ρ2 vs) else none
      | _ => none
def mLc (mi : Mi) (tg : Tg) (vs : List Nat) (c : Mb) (e : M) : M := fun ρ => (mi ρ).bind fun ds ρ1 => if dataSlots ρ1 vs = true then (match lcL tg vs c e ds (wipeE ρ1 vs) with
  | some (os, ρ2) => if okLen os = true then .ok (.o (.lst os)) ρ2 else .bad
  | none => .bad) else .bad
abbrev mYes : Mb := fun ρ => .ok true ρ
abbrev W0 : XW := fun _ _ _ _ => False
section
variable {g : Gd} {W : XW} {σ σ' : L2.St} {ρ ρ' : Env} {H H0 H' Ho Ho' : Hp} {F F0 G hid F1 S S' : List Addr}
theorem lcL_wiped {tg : Tg} {vs : List Nat} {c : Mb} {e : M} : ∀ {ds : List PyData} {ρ : Env} {os : List O} {ρ' : Env}, lcL tg vs c e ds (wipeE ρ vs) = some (os, ρ') → ∃ ρ0, ρ' = wipeE ρ0 vs := by
  intro ds
  induction ds with
  | nil =>
    intro ρ os ρ' h
    cases h
    exact ⟨_, rfl⟩
  | cons d ds ih =>
    intro ρ os ρ' h
    unfold lcL at h
    cases e1 : tg.put d (wipeE ρ vs) with
    | none => simp only [e1] at h; cases h
    | some ρ1 =>
      simp only [e1] at h
      cases e2 : c ρ1 with
      | exc _ _ => simp only [e2] at h; cases h
      | bad => simp only [e2] at h; cases h
      | ok b ρ2 =>
        simp only [e2] at h
        cases b with
        | false =>
          rw [if_neg Bool.false_ne_true] at h
          split at h
          · exact ih h
          · cases h
        | true =>
          rw [if_pos rfl] at h
          cases e3 : e ρ2 with
          | exc _ _ => simp only [e3] at h; cases h
          | bad => simp only [e3] at h; cases h
          | ok x ρ3 =>
            simp only [e3] at h
            cases e4 : x.own with
            | none => simp only [e4] at h; cases h
            | some o =>
              simp only [e4] at h
              split at h
              · cases e5 : lcL tg vs c e ds (wipeE ρ3 vs) with
                | none => simp only [e5] at h; cases h
                | some q =>
                  obtain ⟨os', ρ4⟩ := q
                  simp only [e5] at h
                  cases h
                  exact ih e5
              · cases h
/-- nothing that leaves it is wished for -/
theorem post_of {α β : Type} {RA : L2.St → Hp → Hp → β → α → List Addr → Prop} {a : α} {ρ1 : Env} {Q : β → Hp → Prop} (h : ∀ H' F' F1 v, Rel g H' σ ρ1 F' (F1 ++ hid) → Ext hid H (F ++ hid) H' (F' ++ (F1 ++ hid)) → RA σ H' (off H' (F' ++ (F1 ++ hid))) v a F1 → Q v H') :
    Post g W RA σ hid H F Q (.ok a ρ1) := h
theorem ros_snoc : ∀ {vs : List V} {os : List O} {v : V} {o : O} {F F' : List Addr}, ROs g H Ho vs os F → RO g H Ho v o F' → ROs g H Ho (vs ++ [v]) (os ++ [o]) (F ++ F')
  | _, _, _, _, _, F', .nil, h => by
    have := ROs.cons h (ROs.nil (g := g) (H := H) (Ho := Ho))
    rw [List.append_nil] at this
    exact this
  | _, _, _, _, _, _, .cons h r, h' => by
    rw [List.append_assoc]
    exact ROs.cons h (ros_snoc r h')
theorem sE_lc {mi : Mi} {tg : Tg} {vs : List Nat} {c : Mb} {e : M} {Q : V → Hp → Prop} (hv : ∀ i ∈ tg.slots, i ∈ vs) (h : sE g W (mLc mi tg vs c e) σ H Q) :
    tLc (sI g W mi) (gOf g.K tg) (sT g W0 c) (sE g W0 e) vs σ H Q := by
  obtain ⟨ρ, F, hid, r, p⟩ := h
  refine ⟨ρ, F, hid, r, Post.bind (G := []) Ext.refl p fun items ρ1 H1 F1 G1 J r1 x1 v1 p1 => ?_⟩
  obtain ⟨rfl, yl⟩ := v1
  have r1 : Rel g H1 σ ρ1 F1 hid := r1
  have x1 : Ext hid H (F ++ hid) H1 (F1 ++ hid) := x1
  have yl : Yl g.K J items (off H1 (F1 ++ hid)) (off H1 (F1 ++ hid)) := yl
  by_cases hds : dataSlots ρ1 vs = true
  · rw [if_pos hds] at p1
    cases elc : lcL tg vs c e items (wipeE ρ1 vs) with
    | none => simp only [elc] at p1; exact p1.elim
    | some q =>
      obtain ⟨total, ρ9⟩ := q
      simp only [elc] at p1
      by_cases hlen : okLen total = true
      · rw [if_pos hlen] at p1
        have hlen := of_decide_eq_true hlen
        intro D hD
        have nD : D ∉ F1 ++ hid := r1.fresh hD
        have rw1 := r1.wipe hds
        -- the state with the list hidden
        have r2 : Rel g (upd H1 D (.lst [])) (wipe σ vs) (wipeE ρ1 vs) F1 (D :: hid) := by
          have pm : (D :: (F1 ++ hid)).Perm (F1 ++ (D :: hid)) := List.perm_middle.symm
          refine Rel.congrF (S := D :: (F1 ++ hid)) ?_ (List.nodup_cons.mpr ⟨nD, rw1.nd⟩) (fun a m => ?_) pm
          · rw [off_new hD]
            exact renv_mono (Same.refl _) rw1.env fun a m => upd_ne fun z => nD (z ▸ List.mem_append_left _ m)
          · rcases List.mem_cons.mp m with z | z
            · rw [z, upd_same]; exact fun q => by cases q
            · rw [upd_ne fun q => nD (by rw [← q]; exact z)]; exact rw1.tr a z
        have x2 : Ext hid H1 (F1 ++ hid) (upd H1 D (.lst [])) (F1 ++ (D :: hid)) := by
          have x := Ext.new (S := F1 ++ hid) (o := .lst []) hD (r1.hidT)
          exact x.trans (Ext.sub fun a m => by
            rcases List.mem_append.mp m with z | z
            · exact List.mem_cons_of_mem _ (List.mem_append_left _ z)
            · rcases List.mem_cons.mp z with z | z
              · rw [z]; exact List.mem_cons_self
              · exact List.mem_cons_of_mem _ (List.mem_append_right _ z))
        refine ⟨fun i m H3 => m = items.length - i ∧ i ≤ items.length ∧ ∃ ρ3 F3 acc accV FD rest, Rel g H3 (wipe σ vs) (wipeE ρ3 vs) F3 (D :: (FD ++ hid)) ∧ Ext hid H1 (F1 ++ hid) H3 (F3 ++ (D :: (FD ++ hid))) ∧ H3 D = some (.lst accV) ∧
            ROs g H3 (off H3 (F3 ++ (D :: (FD ++ hid)))) accV acc FD ∧ lcL tg vs c e (items.drop i) (wipeE ρ3 vs) = some (rest, ρ9) ∧ acc ++ rest = total,
          ⟨items.length, by simp, Nat.zero_le _, ρ1, F1, [], [], [], total, r2, x2, upd_same, .nil, by rw [List.drop_zero]; exact elc, rfl⟩, ?_⟩
        rintro i m H3 ⟨rfl, hi, ρ3, F3, acc, accV, FD, rest, r3, x3, hD3, ro3, el3, et⟩
        have s3 : Same (off H1 (F1 ++ hid)) H3 := x3.op.trans off_le
        by_cases hlt : i < items.length
        · refine .inr ⟨yl.go i H3 hlt s3, fun H4 => ∃ ρ4 F4 acc accV FD rest, Rel g H4 (wipe σ vs) (wipeE ρ4 vs) F4 (D :: (FD ++ hid)) ∧ Ext hid H1 (F1 ++ hid) H4 (F4 ++ (D :: (FD ++ hid))) ∧ H4 D = some (.lst accV) ∧
            ROs g H4 (off H4 (F4 ++ (D :: (FD ++ hid)))) accV acc FD ∧ lcL tg vs c e (items.drop (i + 1)) (wipeE ρ4 vs) = some (rest, ρ9) ∧ acc ++ rest = total,
            fun H4 h4 => ⟨items.length - (i + 1), by omega, rfl, hlt, h4⟩, fun x H4 hy => ?_⟩
          have hd : items[i]? = some items[i] := by simp [hlt]
          obtain ⟨r4, x4, d4, ss4⟩ := Yl.at yl hd s3 x3.op hy r3
          have hD4 : H4 D = some (.lst accV) := ss4 _ _ hD3
          have ro4 : ROs g H4 (off H4 (F3 ++ (D :: (FD ++ hid)))) accV acc FD := ros_mono x4.op ro3 fun a m => by
            cases q : H3 a with
            | none => exact absurd q (r3.tr a (List.mem_append_right _ (List.mem_cons_of_mem _ (List.mem_append_left _ m))))
            | some u => exact ss4 _ _ q
          rw [List.drop_eq_getElem_cons hlt] at el3
          unfold lcL at el3
          cases e1 : tg.put items[i] (wipeE ρ3 vs) with
          | none => simp only [e1] at el3; cases el3
          | some ρ5 =>
            simp only [e1] at el3
            refine gOf_ok (keep := []) e1 d4 r4 (fun _ _ z => by cases z) fun σ5 F5 r5 sub5 _ w5 => ⟨(w5 vs hv).trans (wipe_wipe σ vs), ?_⟩
            have hw5 : wipe σ5 vs = wipe σ vs := (w5 vs hv).trans (wipe_wipe σ vs)
            cases e2 : c ρ5 with
            | exc _ _ => simp only [e2] at el3; cases el3
            | bad => simp only [e2] at el3; cases el3
            | ok b ρ6 =>
              simp only [e2] at el3
              refine ⟨ρ5, F5, D :: (FD ++ hid), r5, ?_⟩
              rw [e2]
              refine post_of fun H6 F6 G6 b' r6 x6 v6 => ?_
              obtain ⟨rfl, rfl⟩ := v6
              have r6 : Rel g H6 σ5 ρ6 F6 (D :: (FD ++ hid)) := r6
              have x6 : Ext (D :: (FD ++ hid)) H4 (F5 ++ (D :: (FD ++ hid))) H6 (F6 ++ (D :: (FD ++ hid))) := x6
              have hD6 : H6 D = some (.lst accV) := (x6.hd D List.mem_cons_self).trans hD4
              have ro6 : ROs g H6 (off H6 (F6 ++ (D :: (FD ++ hid)))) accV acc FD := ros_mono ((off_sub sub5).trans x6.op) ro4 fun a m => x6.hd a (List.mem_cons_of_mem _ (List.mem_append_left _ m))
              have x36 : Ext hid H1 (F1 ++ hid) H6 (F6 ++ (D :: (FD ++ hid))) := (x3.trans (x4.less fun a m => List.mem_cons_of_mem _ (List.mem_append_right _ m))).trans ((Ext.sub sub5).trans (x6.less fun a m => List.mem_cons_of_mem _ (List.mem_append_right _ m)))
              cases b' with
              | false =>
                simp only [Bool.false_eq_true, if_false] at el3 ⊢
                split at el3
                · rename_i hd6
                  have rw6 := r6.wipe hd6
                  rw [hw5] at rw6
                  exact ⟨ρ6, F6, acc, accV, FD, rest, rw6, x36, hD6, ro6, el3, et⟩
                · cases el3
              | true =>
                simp only [if_true] at el3 ⊢
                cases e3 : e ρ6 with
                | exc _ _ => simp only [e3] at el3; cases el3
                | bad => simp only [e3] at el3; cases el3
                | ok y ρ7 =>
                  simp only [e3] at el3
                  refine ⟨ρ6, F6, D :: (FD ++ hid), r6, ?_⟩
                  rw [e3]
                  refine post_of fun H7 F7 G7 w r7 x7 v7 => ?_
                  cases y with
                  | s j => simp only [Rv.own] at el3; cases el3
                  | o o =>
                    simp only [Rv.own] at el3
                    split at el3
                    · rename_i hd7
                      cases e5 : lcL tg vs c e (items.drop (i + 1)) (wipeE ρ7 vs) with
                      | none => simp only [e5] at el3; cases el3
                      | some q =>
                        obtain ⟨os', ρ8⟩ := q
                        simp only [e5] at el3
                        cases el3
                        have hD7 : H7 D = some (.lst accV) := (x7.hd D List.mem_cons_self).trans hD6
                        have ro7 : ROs g H7 (off H7 (F7 ++ (G7 ++ (D :: (FD ++ hid))))) accV acc FD := ros_mono x7.op ro6 fun a m => x7.hd a (List.mem_cons_of_mem _ (List.mem_append_left _ m))
                        have hl7 := ROs.length ro7
                        have hlt' : accV.length < sizeLine := by
                          rw [line_eq, hl7]
                          have := congrArg List.length et
                          rw [List.length_append, List.length_cons] at this
                          omega
                        refine ⟨accV, hD7, hlt', ?_⟩
                        -- the new footprint
                        have pm : (F7 ++ (G7 ++ (D :: (FD ++ hid)))).Perm (F7 ++ (D :: ((FD ++ G7) ++ hid))) := by
                          refine List.Perm.append_left F7 ?_
                          refine List.perm_middle.trans (List.Perm.cons D ?_)
                          rw [← List.append_assoc]
                          exact List.Perm.append_right hid List.perm_append_comm
                        have rw7 := r7.wipe hd7
                        rw [hw5] at rw7
                        have eo : off (upd H7 D (.lst (accV ++ [w]))) (F7 ++ (D :: ((FD ++ G7) ++ hid))) = off H7 (F7 ++ (G7 ++ (D :: (FD ++ hid)))) := by
                          rw [off_upd (List.mem_append_right _ List.mem_cons_self)]
                          exact off_congr fun a => pm.mem_iff.symm
                        have nDD : D ∉ F7 ∧ D ∉ G7 ∧ D ∉ FD ∧ D ∉ hid := by
                          obtain ⟨n1, n2, n3⟩ := List.nodup_append.mp rw7.nd
                          obtain ⟨m1, m2, m3⟩ := List.nodup_append.mp n2
                          obtain ⟨l1, l2⟩ := List.nodup_cons.mp m2
                          exact ⟨fun z => n3 D z D (List.mem_append_right _ List.mem_cons_self) rfl, fun z => m3 D z D List.mem_cons_self rfl, fun z => l1 (List.mem_append_left _ z), fun z => l1 (List.mem_append_right _ z)⟩
                        refine ⟨ρ7, F7, acc ++ [o], accV ++ [w], FD ++ G7, os', ⟨?_, pm.nodup_iff.mp rw7.nd, fun a m => ?_⟩, ⟨?_, fun a m => ?_⟩, upd_same, ?_, e5, by rw [List.append_assoc]; exact et⟩
                        · rw [eo]
                          exact renv_mono (Same.refl _) rw7.env fun a m => upd_ne fun z => nDD.1 (z ▸ m)
                        · by_cases z : a = D
                          · rw [z, upd_same]; exact fun q => by cases q
                          · rw [upd_ne z]; exact rw7.tr a (pm.mem_iff.mpr m)
                        · rw [eo]
                          exact x36.op.trans x7.op
                        · rw [upd_ne fun z => nDD.2.2.2 (by rw [← z]; exact m)]
                          exact (x7.hd a (List.mem_cons_of_mem _ (List.mem_append_right _ m))).trans (x36.hd a m)
                        · rw [eo]
                          refine ros_snoc (ros_mono (Same.refl _) ro7 fun a m => upd_ne fun z => nDD.2.2.1 (z ▸ m)) (ro_mono (Same.refl _) v7 fun a m => upd_ne fun z => nDD.2.1 (z ▸ m))
                    · cases el3
        · have ei : i = items.length := by omega
          subst ei
          rw [List.drop_length] at el3
          cases el3
          rw [List.append_nil] at et
          subst et
          refine .inl ⟨yl.stop H3 s3, ?_⟩
          have r4 := r3.unwipe
          exact p1 H3 F3 (D :: FD) (.ref D) r4 (x1.trans x3) (.lst hD3 ro3)
      · rw [if_neg hlen] at p1
        exact p1.elim
  · rw [if_neg hds] at p1
    exact p1.elim
where
  wipe_wipe (σ : L2.St) (vs : List Nat) : wipe (wipe σ vs) vs = wipe σ vs := by
    have aux : ∀ (ws : List Nat), (∀ w ∈ ws, w ∈ vs) → wipe (wipe σ vs) ws = wipe σ vs := by
      intro ws
      induction ws with
      | nil => intro _; rfl
      | cons w ws ih =>
        intro hw
        show (wipe (wipe σ vs) ws).set w none = wipe σ vs
        rw [ih fun x m => hw x (List.mem_cons_of_mem _ m)]
        apply List.ext_getElem?
        intro j
        by_cases hj : w = j
        · subst hj
          by_cases hl : w < (wipe σ vs).length
          · rw [List.getElem?_set_self hl]
            cases q : (wipe σ vs)[w]? with
            | none => rw [List.getElem?_eq_none_iff] at q; omega
            | some y =>
              cases y with
              | none => rfl
              | some z => exact absurd (hw w List.mem_cons_self) (wipe_some q).2
          · rw [List.getElem?_eq_none (by rw [List.length_set]; omega), List.getElem?_eq_none (by omega)]
        · rw [List.getElem?_set_ne hj]
    exact aux vs fun _ m => m
end
end FL
end
section
set_option Elab.async false
set_option linter.all false
set_option maxRecDepth 100000
set_option autoImplicit false
namespace FL
open PySem L2

/-! ### calls of the program's own defs -/
inductive RF where
  | ok (o : O) (outs : List O)
  | exc (e : Exn) (outs : List O)
  | bad
/-- a def as a function of owned arguments; those at io are handed back as they are then -/
abbrev Fn := List O → RF

section
variable (g : Gd) (io : List Nat)
/-- how a call ends -/
def PostF (hid : List Addr) (H : Hp) (F : List Addr) (vs : List V) (Q : VK) (E : XK) : RF → Prop
  | .ok o outs => ∀ H' F1 F2 v, RO g H' (off H' (F1 ++ (F2 ++ hid))) v o F1 → ROs g H' (off H' (F1 ++ (F2 ++ hid))) (io.filterMap (vs[·]?)) outs F2 → (F1 ++ (F2 ++ hid)).Nodup → (∀ a ∈ F1 ++ (F2 ++ hid), H' a ≠ none) → Ext hid H (F ++ hid) H' (F1 ++ (F2 ++ hid)) → Q v H'
  | .exc e outs => ∀ H' F2 cls dd, ROs g H' (off H' (F2 ++ hid)) (io.filterMap (vs[·]?)) outs F2 → (F2 ++ hid).Nodup → (∀ a ∈ F2 ++ hid, H' a ≠ none) → Ext hid H (F ++ hid) H' (F2 ++ hid) → XR g H' (off H' (F2 ++ hid)) e cls dd → E cls dd H'
  | .bad => False
def spF (n : Nat) (f : Fn) : Sp := fun vs H Q E => vs.length = n ∧ ∃ os F hid, ROs g H (off H (F ++ hid)) vs os F ∧ (F ++ hid).Nodup ∧ (∀ a ∈ F ++ hid, H a ≠ none) ∧ PostF g io hid H F vs Q E (f os)
end
/-- the arguments handed over: what stands in a slot is taken out of it -/
def takeA : List Rv → Env → Option (List O × Env)
  | [], ρ => some ([], ρ)
  | .o x :: xs, ρ => match takeA xs ρ with | some (os, ρ1) => some (x :: os, ρ1) | none => none
  | .s i :: xs, ρ => match ρ[i]? with
    | some (some o) => match takeA xs (ρ.set i none) with | some (os, ρ1) => some (o :: os, ρ1) | none => none
    | _ => none
/-- what comes back is put into its slot again -/
def backA : List Nat → List Rv → List O → Env → Env
  | i :: io, xs, o :: os, ρ => match xs[i]? with
    | some (.s j) => backA io xs os (ρ.set j (some o))
    | _ => backA io xs os ρ
  | _, _, _, ρ => ρ
def mCall (io : List Nat) (n : Nat) (f : Fn) (ms : Ms) : M := fun ρ => (ms ρ).bind fun xs ρ1 => match takeA xs ρ1 with
  | some (os, ρ2) => if decide (os.length = n) = true then (match f os with
    | .ok o outs => .ok (.o o) (backA io xs outs ρ2)
    | .exc e outs => .exc e (backA io xs outs ρ2)
    | .bad => .bad) else .bad
  | none => .bad

section
variable {g : Gd} {W : XW} {σ σ' : L2.St} {ρ ρ' : Env} {H H0 H' Ho Ho' : Hp} {F F0 G hid F1 S S' : List Addr}
theorem renv_none : ∀ {σ : L2.St} {ρ : Env} {F : List Addr} {i : Nat} {o : O}, REnv g H Ho σ ρ F → ρ[i]? = some (some o) → ∃ v F1 G, σ[i]? = some (some v) ∧ F.Perm (F1 ++ G) ∧ RO g H Ho v o F1 ∧ REnv g H Ho σ (ρ.set i none) G
  | _, _, _, _, _, .nil, h => by simp at h
  | _, _, _, 0, _, .gap h, e => by simp at e
  | _, _, _, 0, o, .has h r, e => by
    simp at e
    subst e
    exact ⟨_, _, _, rfl, List.Perm.refl _, h, .gap r⟩
  | _, _, _, i + 1, o, .gap h, e => by
    obtain ⟨v, F1, G, e1, p, q, k⟩ := renv_none (i := i) h (by simpa using e)
    exact ⟨v, F1, G, by simpa using e1, p, q, .gap k⟩
  | _, _, _, i + 1, o, .has (F := F0) h r, e => by
    obtain ⟨v, F1, G, e1, p, q, k⟩ := renv_none (i := i) r (by simpa using e)
    refine ⟨v, F1, F0 ++ G, by simpa using e1, ?_, q, .has h k⟩
    refine (List.Perm.append_left F0 p).trans ?_
    rw [← List.append_assoc, ← List.append_assoc]
    exact List.Perm.append_right G List.perm_append_comm
theorem takeA_ok : ∀ {xs : List Rv} {vs : List V} {os : List O} {ρ ρ1 : Env} {F G1 : List Addr}, RVs g σ H Ho vs xs G1 → REnv g H Ho σ ρ F → takeA xs ρ = some (os, ρ1) →
    ∃ FA F', ROs g H Ho vs os FA ∧ REnv g H Ho σ ρ1 F' ∧ (G1 ++ F).Perm (FA ++ F')
  | [], [], _, _, _, F, G1, h, r, e => by
    cases e
    obtain rfl : G1 = [] := h
    exact ⟨[], F, .nil, r, List.Perm.refl _⟩
  | .o x :: xs, v :: vs, os, ρ, ρ1, F, _, h, r, e => by
    obtain ⟨F1, F2, rfl, h1, h2⟩ := h
    unfold takeA at e
    cases e1 : takeA xs ρ with
    | none => simp only [e1] at e; cases e
    | some q =>
      obtain ⟨os', ρ2⟩ := q
      simp only [e1] at e
      cases e
      obtain ⟨FA, F', r1, r2, p⟩ := takeA_ok h2 r e1
      refine ⟨F1 ++ FA, F', .cons h1 r1, r2, ?_⟩
      rw [List.append_assoc, List.append_assoc]
      exact List.Perm.append_left F1 p
  | .s i :: xs, v :: vs, os, ρ, ρ1, F, _, h, r, e => by
    obtain ⟨F1, F2, rfl, h1, h2⟩ := h
    obtain ⟨rfl, hσ⟩ := h1
    unfold takeA at e
    split at e
    · rename_i o ho
      cases e1 : takeA xs (ρ.set i none) with
      | none => simp only [e1] at e; cases e
      | some q =>
        obtain ⟨os', ρ2⟩ := q
        simp only [e1] at e
        cases e
        obtain ⟨v', Fo, G, es, pm, ro, rn⟩ := renv_none r ho
        rw [hσ] at es
        cases es
        obtain ⟨FA, F', r1, r2, p⟩ := takeA_ok h2 rn e1
        refine ⟨Fo ++ FA, F', .cons ro r1, r2, ?_⟩
        rw [List.nil_append, List.append_assoc]
        refine (List.Perm.append_left F2 pm).trans ?_
        rw [← List.append_assoc]
        refine (List.Perm.append_right G List.perm_append_comm).trans ?_
        rw [List.append_assoc]
        exact List.Perm.append_left Fo p
    · cases e
  | [], _ :: _, _, _, _, _, _, h, _, _ => h.elim
  | .o _ :: _, [], _, _, _, _, _, h, _, _ => h.elim
  | .s _ :: _, [], _, _, _, _, _, h, _, _ => h.elim
theorem rvs_slot : ∀ {xs : List Rv} {vs : List V} {G1 : List Addr} {i j : Nat}, RVs g σ H Ho vs xs G1 → xs[i]? = some (.s j) → ∃ v, vs[i]? = some v ∧ σ[j]? = some (some v)
  | [], _, _, _, _, _, e => by simp at e
  | x :: xs, v :: vs, _, 0, j, h, e => by
    obtain ⟨F1, F2, _, h1, _⟩ := h
    simp at e
    subst e
    exact ⟨v, rfl, h1.2⟩
  | x :: xs, v :: vs, _, i + 1, j, h, e => by
    obtain ⟨F1, F2, _, _, h2⟩ := h
    obtain ⟨w, e1, e2⟩ := rvs_slot (i := i) h2 (by simpa using e)
    exact ⟨w, by simpa using e1, e2⟩
  | _ :: _, [], _, _, _, h, _ => h.elim
theorem set_same {σ : L2.St} {j : Nat} {v : V} (h : σ[j]? = some (some v)) : σ.set j (some v) = σ := by
  apply List.ext_getElem?
  intro k
  by_cases e : j = k
  · subst e
    rw [List.getElem?_set_self (List.getElem?_eq_some_iff.mp h).1, h]
  · rw [List.getElem?_set_ne e]
theorem backA_ok : ∀ {io : List Nat} {xs : List Rv} {vs : List V} {outs : List O} {ρ : Env} {F F2 : List Addr} {G1 : List Addr} {H0 Ho0 : Hp}, RVs g σ H0 Ho0 vs xs G1 → ROs g H Ho (io.filterMap (vs[·]?)) outs F2 → REnv g H Ho σ ρ F → (F ++ F2).Nodup → (∀ i ∈ io, i < vs.length) →
    ∃ F', REnv g H Ho σ (backA io xs outs ρ) F' ∧ (∀ a ∈ F', a ∈ F ++ F2) ∧ F'.Nodup
  | [], _, _, _, _, F, F2, _, _, _, _, _, r, nd, _ => ⟨F, r, fun _ m => List.mem_append_left _ m, (List.nodup_append.mp nd).1⟩
  | i :: io, xs, vs, outs, ρ, F, F2, G1, _, _, h, ro, r, nd, hio => by
    have hi := hio i List.mem_cons_self
    have hv : vs[i]? = some vs[i] := by simp [hi]
    rw [List.filterMap_cons, hv] at ro
    cases ro with
    | cons ro rest =>
      rename_i o outs' Fa Fb
      unfold backA
      have nd' : (F ++ Fb).Nodup := nd.sublist (List.Sublist.append_left (List.sublist_append_right _ _) F)
      have sub0 : ∀ a ∈ F ++ Fb, a ∈ F ++ (Fa ++ Fb) := fun a m => (List.mem_append.mp m).elim (List.mem_append_left _) fun z => List.mem_append_right _ (List.mem_append_right _ z)
      split
      · rename_i j hj
        obtain ⟨v, e1, e2⟩ := rvs_slot h hj
        rw [hv] at e1
        cases e1
        obtain ⟨_, G, g1, g2, g2', g3⟩ := REnv.put j r
        obtain ⟨F', p, re⟩ := g3 vs[i] o Fa (List.getElem?_eq_some_iff.mp e2).1 ro
        rw [set_same e2] at re
        have sub1 : ∀ a ∈ F' ++ Fb, a ∈ F ++ (Fa ++ Fb) := fun a m => by
          rcases List.mem_append.mp m with z | z
          · rcases List.mem_append.mp (p.mem_iff.mp z) with z | z
            · exact List.mem_append_right _ (List.mem_append_left _ z)
            · exact List.mem_append_left _ (g1 a z)
          · exact List.mem_append_right _ (List.mem_append_right _ z)
        have nd1 : (F' ++ Fb).Nodup := by
          obtain ⟨n1, n2, n3⟩ := List.nodup_append.mp nd
          obtain ⟨m1, m2, m3⟩ := List.nodup_append.mp n2
          have nF' : F'.Nodup := p.nodup_iff.mpr (List.nodup_append.mpr ⟨m1, g2 n1, fun a m b m' q => n3 b (g1 b m') a (List.mem_append_left _ m) q.symm⟩)
          refine List.nodup_append.mpr ⟨nF', m2, fun a m b m' => ?_⟩
          rcases List.mem_append.mp (p.mem_iff.mp m) with z | z
          · exact m3 a z b m'
          · exact n3 a (g1 a z) b (List.mem_append_right _ m')
        obtain ⟨F3, r3, s3, n3⟩ := backA_ok h rest re nd1 fun k m => hio k (List.mem_cons_of_mem _ m)
        exact ⟨F3, r3, fun a m => sub1 a (s3 a m), n3⟩
      · obtain ⟨F3, r3, s3, n3⟩ := backA_ok h rest r nd' fun k m => hio k (List.mem_cons_of_mem _ m)
        exact ⟨F3, r3, fun a m => sub0 a (s3 a m), n3⟩
theorem nd_back {Fr Fo F' F3 hid : List Addr} (nd : (Fr ++ (Fo ++ (F' ++ hid))).Nodup) (s3 : ∀ a ∈ F3, a ∈ F' ++ Fo) (n3 : F3.Nodup) : (F3 ++ (Fr ++ hid)).Nodup ∧ ∀ a ∈ F3 ++ (Fr ++ hid), a ∈ Fr ++ (Fo ++ (F' ++ hid)) := by
  obtain ⟨a1, a2, a3⟩ := List.nodup_append.mp nd
  obtain ⟨b1, b2, b3⟩ := List.nodup_append.mp a2
  obtain ⟨c1, c2, c3⟩ := List.nodup_append.mp b2
  have up : ∀ a ∈ F3, a ∈ Fo ++ (F' ++ hid) := fun a m => (List.mem_append.mp (s3 a m)).elim (fun z => List.mem_append_right _ (List.mem_append_left _ z)) fun z => List.mem_append_left _ z
  refine ⟨List.nodup_append.mpr ⟨n3, List.nodup_append.mpr ⟨a1, c2, fun a m b m' => a3 a m b (List.mem_append_right _ (List.mem_append_right _ m'))⟩, fun a m b m' q => ?_⟩, fun a m => ?_⟩
  · subst q
    rcases List.mem_append.mp m' with z | z
    · exact a3 a z a (up a m) rfl
    · rcases List.mem_append.mp (s3 a m) with y | y
      · exact c3 a y a z rfl
      · exact b3 a y a (List.mem_append_right _ z) rfl
  · rcases List.mem_append.mp m with z | z
    · exact List.mem_append_right _ (up a z)
    · rcases List.mem_append.mp z with z | z
      · exact List.mem_append_left _ z
      · exact List.mem_append_right _ (List.mem_append_right _ (List.mem_append_right _ z))
theorem sE_call {io : List Nat} {n : Nat} {f : Fn} {ms : Ms} {Q : V → Hp → Prop} (hn : ∀ i ∈ io, i < n) (h : sE g W (mCall io n f ms) σ H Q) :
    sA g W ms σ H fun vs H1 => spF g io n f vs H1 Q fun cls dd H2 => W cls dd σ H2 := by
  obtain ⟨ρ, F, hid, r, p⟩ := h
  refine ⟨ρ, F, hid, r, Post.bind (G := []) Ext.refl p fun xs ρ1 H1 F1 G1 vs r1 x1 v1 p1 => ?_⟩
  cases e : takeA xs ρ1 with
  | none => simp only [e] at p1; exact p1.elim
  | some q =>
    obtain ⟨os, ρ2⟩ := q
    simp only [e] at p1
    by_cases hl : decide (os.length = n) = true
    · rw [if_pos hl] at p1
      have hl := of_decide_eq_true hl
      obtain ⟨FA, F', ra, re, pm⟩ := takeA_ok v1 r1.env e
      have pm2 : (F1 ++ (G1 ++ hid)).Perm (FA ++ (F' ++ hid)) := by
        rw [← List.append_assoc, ← List.append_assoc]
        exact List.Perm.append_right hid (List.perm_append_comm.trans pm)
      have eo : off H1 (F1 ++ (G1 ++ hid)) = off H1 (FA ++ (F' ++ hid)) := off_congr fun a => pm2.mem_iff
      have nd2 := pm2.nodup_iff.mp r1.nd
      have tr2 : ∀ a ∈ FA ++ (F' ++ hid), H1 a ≠ none := fun a m => r1.tr a (pm2.mem_iff.mpr m)
      have lv : vs.length = n := (ROs.length ra).trans hl
      refine ⟨lv, os, FA, F' ++ hid, by rw [← eo]; exact ra, nd2, tr2, ?_⟩
      have x1 : Ext hid H (F ++ hid) H1 (FA ++ (F' ++ hid)) := x1.trans (Ext.sub fun a m => pm2.mem_iff.mpr m)
      cases ef : f os with
      | bad => simp only [ef] at p1; exact p1
      | ok o outs =>
        simp only [ef] at p1
        intro H2 Fr Fo v ro routs nd tr x
        have re2 : REnv g H2 (off H2 (Fr ++ (Fo ++ (F' ++ hid)))) σ ρ2 F' := renv_mono x.op (by rw [← eo]; exact re) fun a m => x.hd a (List.mem_append_left _ m)
        have ndb : (F' ++ Fo).Nodup := by
          obtain ⟨a1, a2, a3⟩ := List.nodup_append.mp nd
          obtain ⟨b1, b2, b3⟩ := List.nodup_append.mp a2
          obtain ⟨c1, c2, c3⟩ := List.nodup_append.mp b2
          exact List.nodup_append.mpr ⟨c1, b1, fun a m b m' q => b3 b m' a (List.mem_append_left _ m) q.symm⟩
        obtain ⟨F3, r3, s3, n3⟩ := backA_ok v1 routs re2 ndb fun i m => by rw [lv]; exact hn i m
        obtain ⟨nn, sub⟩ := nd_back nd s3 n3
        exact p1 H2 F3 Fr v ⟨renv_mono (off_sub sub) r3 fun _ _ => rfl, nn, fun a m => tr a (sub a m)⟩ ((x1.trans (x.less fun c m => List.mem_append_right _ m)).trans (Ext.sub sub)) (ro_mono (off_sub sub) ro fun _ _ => rfl)
      | exc e' outs =>
        simp only [ef] at p1
        intro H2 Fo cls dd routs nd tr x xr
        have re2 : REnv g H2 (off H2 (Fo ++ (F' ++ hid))) σ ρ2 F' := renv_mono x.op (by rw [← eo]; exact re) fun a m => x.hd a (List.mem_append_left _ m)
        have ndb : (F' ++ Fo).Nodup := by
          obtain ⟨b1, b2, b3⟩ := List.nodup_append.mp nd
          obtain ⟨c1, c2, c3⟩ := List.nodup_append.mp b2
          exact List.nodup_append.mpr ⟨c1, b1, fun a m b m' q => b3 b m' a (List.mem_append_left _ m) q.symm⟩
        obtain ⟨F3, r3, s3, n3⟩ := backA_ok v1 routs re2 ndb fun i m => by rw [lv]; exact hn i m
        obtain ⟨nn, sub⟩ := nd_back (Fr := []) nd s3 n3
        exact p1 H2 F3 cls dd ⟨renv_mono (off_sub sub) r3 fun _ _ => rfl, nn, fun a m => tr a (sub a m)⟩ ((x1.trans (x.less fun c m => List.mem_append_right _ m)).trans (Ext.sub sub)) (xr_mono xr (off_sub sub))
    · rw [if_neg hl] at p1
      exact p1.elim
/-- what stands in the kept slots at the end -/
def outsE : List Nat → Env → Option (List O)
  | [], _ => some []
  | i :: io, ρ => match ρ[i]? with
    | some (some o) => match outsE io (ρ.set i none) with | some os => some (o :: os) | none => none
    | _ => none
theorem outs_ok : ∀ {io : List Nat} {ρ : Env} {outs : List O} {F : List Addr} {vs : List V}, REnv g H Ho σ ρ F → outsE io ρ = some outs → (∀ j ∈ io, ∀ v, vs[j]? = some v → σ[j]? = some (some v)) → (∀ j ∈ io, j < vs.length) →
    ∃ F2 F', ROs g H Ho (io.filterMap (vs[·]?)) outs F2 ∧ F.Perm (F2 ++ F')
  | [], ρ, _, F, vs, r, e, _, _ => by
    cases e
    exact ⟨[], F, .nil, List.Perm.refl _⟩
  | i :: io, ρ, outs, F, vs, r, e, k, hl => by
    unfold outsE at e
    split at e
    · rename_i o ho
      cases e1 : outsE io (ρ.set i none) with
      | none => simp only [e1] at e; cases e
      | some os =>
        simp only [e1] at e
        cases e
        obtain ⟨v, Fo, G, es, pm, ro, rn⟩ := renv_none r ho
        have hv : vs[i]? = some (vs[i]'(hl i List.mem_cons_self)) := by simp [hl i List.mem_cons_self]
        have := k i List.mem_cons_self _ hv
        rw [this] at es
        cases es
        obtain ⟨F2, F', r2, p2⟩ := outs_ok rn e1 (fun j m => k j (List.mem_cons_of_mem _ m)) fun j m => hl j (List.mem_cons_of_mem _ m)
        refine ⟨Fo ++ F2, F', ?_, ?_⟩
        · rw [List.filterMap_cons, hv]
          exact .cons ro r2
        · rw [List.append_assoc]
          exact pm.trans (List.Perm.append_left Fo p2)
    · cases e
/-- the def that a body is: len names in all -/
def fnOf (io : List Nat) (len : Nat) (m : MS) : Fn := fun os => match m (os.map some ++ List.replicate (len - os.length) none) with
  | .rt o ρ' => (match outsE io ρ' with | some outs => .ok o outs | none => .bad)
  | .nx ρ' => (match outsE io ρ' with | some outs => .ok (.d .none) outs | none => .bad)
  | .exc e ρ' => (match outsE io ρ' with | some outs => .exc e outs | none => .bad)
  | _ => .bad
theorem renv_start : ∀ {vs : List V} {os : List O} {F : List Addr} (k : Nat), ROs g H Ho vs os F → REnv g H Ho (vs.map some ++ List.replicate k none) (os.map some ++ List.replicate k none) F
  | [], [], _, k, h => by
    cases h
    rw [List.map_nil, List.map_nil, List.nil_append, List.nil_append]
    induction k with
    | zero => exact .nil
    | succ k ih => exact .gap ih
  | v :: vs, o :: os, _, k, h => by
    cases h with
    | cons h r => exact .has h (renv_start k r)
theorem sS_fn {io : List Nat} {n len : Nat} {m : MS} {vs : List V} {Q : VK} {E : XK} (hio : ∀ j ∈ io, j < n) (h : spF g io n (fnOf io len m) vs H Q E) (names : List Str) (hnm : names.length = len) :
    sS g (fun c d _ H => E c d H) io m { nx := fun _ H' => Q .non H', rt := Q } (L2.start names vs) H := by
  obtain ⟨hvs, os, F, hid, ra, nd, tr, p⟩ := h
  have l := ROs.length ra
  have re := renv_start (len - os.length) ra
  have es : L2.start names vs = vs.map some ++ List.replicate (len - os.length) none := by unfold L2.start; rw [hnm, l]
  refine ⟨os.map some ++ List.replicate (len - os.length) none, F, hid, by rw [es]; exact ⟨re, nd, tr⟩, ?_⟩
  unfold fnOf at p
  have keepv : ∀ (σ' : L2.St), (∀ j ∈ io, σ'[j]? = (L2.start names vs)[j]?) → ∀ j ∈ io, ∀ v, vs[j]? = some v → σ'[j]? = some (some v) := fun σ' k j m v hv => by
    have hj : j < vs.length := (List.getElem?_eq_some_iff.mp hv).1
    rw [k j m, es, List.getElem?_append_left (by rw [List.length_map]; exact hj), List.getElem?_map, hv]
    rfl
  have hl : ∀ j ∈ io, j < vs.length := fun j m => by rw [hvs]; exact hio j m
  cases e : m (os.map some ++ List.replicate (len - os.length) none) with
  | nx ρ' =>
    simp only [e] at p
    intro H' F' σ' r' x' k'
    cases e2 : outsE io ρ' with
    | none => simp only [e2] at p; exact p.elim
    | some outs =>
      simp only [e2] at p
      obtain ⟨F2, F3, ro, pm⟩ := outs_ok r'.env e2 (keepv σ' k') hl
      have sub : ∀ a ∈ F2 ++ hid, a ∈ F' ++ hid := fun a m => (List.mem_append.mp m).elim (fun z => List.mem_append_left _ (pm.mem_iff.mpr (List.mem_append_left _ z))) fun z => List.mem_append_right _ z
      have nn : (F2 ++ hid).Nodup := by
        obtain ⟨a1, a2, a3⟩ := List.nodup_append.mp r'.nd
        exact List.nodup_append.mpr ⟨(List.nodup_append.mp (pm.nodup_iff.mp a1)).1, a2, fun a m b m' => a3 a (pm.mem_iff.mpr (List.mem_append_left _ m)) b m'⟩
      exact p H' [] F2 .non (.d .non) (ros_mono (off_sub sub) ro fun _ _ => rfl) nn (fun a m => r'.tr a (sub a m)) (x'.trans (Ext.sub sub))
  | rt o ρ' =>
    simp only [e] at p
    intro H' F' F1 σ' v r' x' k' rv
    cases e2 : outsE io ρ' with
    | none => simp only [e2] at p; exact p.elim
    | some outs =>
      simp only [e2] at p
      obtain ⟨F2, F3, ro, pm⟩ := outs_ok r'.env e2 (keepv σ' k') hl
      have sub : ∀ a ∈ F1 ++ (F2 ++ hid), a ∈ F' ++ (F1 ++ hid) := fun a m => by
        rcases List.mem_append.mp m with z | z
        · exact List.mem_append_right _ (List.mem_append_left _ z)
        · rcases List.mem_append.mp z with z | z
          · exact List.mem_append_left _ (pm.mem_iff.mpr (List.mem_append_left _ z))
          · exact List.mem_append_right _ (List.mem_append_right _ z)
      have nn : (F1 ++ (F2 ++ hid)).Nodup := by
        obtain ⟨a1, a2, a3⟩ := List.nodup_append.mp r'.nd
        obtain ⟨b1, b2, b3⟩ := List.nodup_append.mp a2
        have m2 : ∀ a ∈ F2, a ∈ F' := fun a m => pm.mem_iff.mpr (List.mem_append_left _ m)
        refine List.nodup_append.mpr ⟨b1, List.nodup_append.mpr ⟨(List.nodup_append.mp (pm.nodup_iff.mp a1)).1, b2, fun a m b m' => a3 a (m2 a m) b (List.mem_append_right _ m')⟩, fun a m b m' q => ?_⟩
        rcases List.mem_append.mp m' with z | z
        · exact a3 b (m2 b z) a (List.mem_append_left _ m) q.symm
        · exact b3 a m b z q
      exact p H' F1 F2 v (ro_mono (off_sub sub) rv fun _ _ => rfl) (ros_mono (off_sub sub) ro fun _ _ => rfl) nn (fun a m => r'.tr a (sub a m)) (x'.trans (Ext.sub sub))
  | exc e' ρ' =>
    simp only [e] at p
    intro H' F' σ' cls dd r' x' k' xr
    cases e2 : outsE io ρ' with
    | none => simp only [e2] at p; exact p.elim
    | some outs =>
      simp only [e2] at p
      obtain ⟨F2, F3, ro, pm⟩ := outs_ok r'.env e2 (keepv σ' k') hl
      have sub : ∀ a ∈ F2 ++ hid, a ∈ F' ++ hid := fun a m => (List.mem_append.mp m).elim (fun z => List.mem_append_left _ (pm.mem_iff.mpr (List.mem_append_left _ z))) fun z => List.mem_append_right _ z
      have nn : (F2 ++ hid).Nodup := by
        obtain ⟨a1, a2, a3⟩ := List.nodup_append.mp r'.nd
        exact List.nodup_append.mpr ⟨(List.nodup_append.mp (pm.nodup_iff.mp a1)).1, a2, fun a m b m' => a3 a (pm.mem_iff.mpr (List.mem_append_left _ m)) b m'⟩
      exact p H' F2 cls dd (ros_mono (off_sub sub) ro fun _ _ => rfl) nn (fun a m => r'.tr a (sub a m)) (x'.trans (Ext.sub sub)) (xr_mono xr (off_sub sub))
  | bk ρ' => simp only [e] at p; exact p.elim
  | ct ρ' => simp only [e] at p; exact p.elim
  | bad => simp only [e] at p; exact p.elim
end
end FL
end
section
set_option Elab.async false
set_option linter.all false
set_option maxRecDepth 100000
set_option autoImplicit false

/-! ### enumerate of a tuple -/
namespace PySem
set_option maxHeartbeats 1000000 in
theorem fl_enum_new {v : Value} {o : Obj} {H : Heap → Prop} (B : Begins v o H) :
    Meets (Builtin.«enumerate.__new__» ⟨[.type "enumerate", v], []⟩) (fun _ R s => H s.heap ∧
      R (.ok (.ret (.ref (s.heap.push o).objs.size))) { s with heap := (s.heap.push o).push { cls := .type "enumerate", data := .fields #[.none, .bool false, .ref s.heap.objs.size, rawInt 0, .none, .none] } }) :=
  Meets.of_wp fun prog w A R s hh => by
    obtain ⟨hp, gg, dd, tt, os⟩ := s
    obtain ⟨h1, h⟩ := hh
    have hsub := sub_enumerate
    have begin_ : ∀ {A' : Around} {E Q : Value → Shared → Prop}, Q (.ref hp.objs.size) ⟨hp.push o, gg, dd, tt, os⟩ → wpAny (model prog w) A' (pyIter v) Q E ⟨hp, gg, dd, tt, os⟩ :=
      fun q => B.iter prog w _ _ ⟨hp, gg, dd, tt, os⟩ _ h1 q
    wp_walk using begin_
    refine wpAny_stack_any fun _ => wpAny_pure ?_
    split
    · rename_i cc _ _ _ _ _
      cases (cc == Value.type "enumerate") <;> (wp_walk using begin_; exact ⟨_, rfl, h⟩)
    · wp_walk using begin_; exact ⟨_, rfl, h⟩
section
variable {prog : Program} {w : World} {A : Around} {E : Value → Shared → Prop} {s : Shared}
theorem fl_enum_call {v : Value} {o : Obj} {H : Heap → Prop} {Q : Value → Shared → Prop} (B : Begins v o H) (h1 : H s.heap)
    (h : ∀ h', IsEnum h' (s.heap.objs.size + 1) s.heap.objs.size 0 .none → h'.get? s.heap.objs.size = some o → (∀ b u, s.heap.get? b = some u → h'.get? b = some u) → Q (.ref (s.heap.objs.size + 1)) { s with heap := h' }) :
    wpAny (model prog w) A (call (.type "enumerate") [v]) Q E s := by
  have size1 : (s.heap.push o).objs.size = s.heap.objs.size + 1 := Heap.size_push ..
  refine callType_new F.called_enumerate (by decide) (F.typeCall_enumerate_1 v) (F.newCall_enumerate_1 v) (fun obj => F.args_object_init_2 obj v) F.entry_enumerate_new (fl_enum_new B) ⟨h1, ?_⟩
  show _ ∧ _
  rw [size1]
  have he : IsEnum ((s.heap.push o).push { cls := .type "enumerate", data := .fields #[.none, .bool false, .ref s.heap.objs.size, rawInt 0, .none, .none] }) (s.heap.objs.size + 1) s.heap.objs.size 0 .none := by
    have q := Heap.get?_push_size (s.heap.push o) (o := { cls := .type "enumerate", data := .fields #[.none, .bool false, .ref s.heap.objs.size, rawInt 0, .none, .none] }) rfl
    rwa [size1] at q
  exact ⟨⟨_, he, rfl⟩, h _ he (Heap.get?_push_of_some _ (Heap.get?_push_size _ B.free)) fun b u q => Heap.get?_push_of_some _ (Heap.get?_push_of_some _ q)⟩
end
end PySem

namespace L2
open PySem
/-- the tuple at a, its items with their places in new pairs -/
def IteT (K : PySem.W.Frag) (a : Addr) : It where
  go i H := ∃ (xs : List V) (x : V), SqT K H a xs ∧ xs[i]? = some x
  yld i H v H' := ∃ T x, v = .ref T ∧ H T = none ∧ H' = upd H T (.tup [.int (i : Nat), x]) ∧ ∀ xs, SqT K H a xs → xs[i]? = some x
  stop i H := ∃ xs : List V, SqT K H a xs ∧ xs.length = i
theorem turn_enumT {P : Program} {w : World} {K : PySem.W.Frag} {elts : List Expr} {kk : Nat} {tpos : Pos} (a e it : Addr) (n1 : e ≠ it) (n2 : a ≠ it) (n3 : a ≠ e) :
    Turn P w K (.Tuple elts kk tpos) (IteT K a) [e, it] e (fun i h => (∃ old, IsEnum h e it ((i : Nat) : Int) old) ∧ h.IsTupleIter it a i) where
  mem := List.mem_cons_self
  obj i h st b hb := by
    obtain ⟨⟨old, he⟩, ⟨o, ho, hc, hd⟩⟩ := st
    rcases List.mem_cons.mp hb with z | z
    · exact ⟨_, z ▸ he, fun v q => by cases q⟩
    · have z : b = it := List.mem_singleton.mp z
      exact ⟨o, z ▸ ho, fun v q => by rw [hd] at q; cases q⟩
  keep i h h' st k := by
    obtain ⟨⟨old, he⟩, ht⟩ := st
    exact ⟨⟨old, k e List.mem_cons_self _ he⟩, ht.at fun o q => k it (List.mem_cons_of_mem _ (List.mem_singleton.mpr rfl)) o q⟩
  item X hP hw hK hc i pins s σ H E I hf st hg := by
    subst hP hw hK
    obtain ⟨⟨old, he⟩, hit⟩ := st
    obtain ⟨xs, x, hq, hx⟩ := hg
    obtain ⟨its, rv, p, hz⟩ := I.tuple hq
    obtain ⟨u, hu, ru⟩ := rv.get hx
    have lt_e : e < s.heap.objs.size := Heap.lt_size he
    have lt_it : it < s.heap.objs.size := by obtain ⟨_, q, _⟩ := hit; exact Heap.lt_size q
    have hi : i < its.toArray.size := by
      have := (List.getElem?_eq_some_iff.mp hu).1
      simpa using this
    have D := Draws.tuple (prog := X.prog) (w := X.w) (A := X.A.in1) (I.ok.hd hc) it a n2 its.toArray
    refine wpAny_pyNext_enum_itemD D he ⟨hit, p⟩ hi n1 (by simp [n1, Ne.symm n3]) fun x' h' tk hx' hout hst' hT hsz hk => ?_
    obtain ⟨hit', _⟩ := hst'
    obtain rfl : x' = u := by
      have q : its.toArray[i]? = some u := by simpa using hu
      rw [q] at hx'
      exact (Option.some.inj hx').symm
    refine ⟨_, rfl, wpAny_letOwnedTupleGo_enum (s := { s with heap := h', toks := tk + 1 }) hout fun h'' he' sb => ?_⟩
    have hT2 : h''.get? s.heap.objs.size = some { cls := .type "tuple", data := .seq #[.int i tk, x'] } := (sb.2 _ (Nat.ne_of_gt lt_e)).trans hT
    have new : ObjOk X.prog X.w (upd H s.heap.objs.size (.tup [.int (i : Nat), x])) h'' s.heap.objs.size (.tup [.int (i : Nat), x]) :=
      ⟨by rw [sizeLine_eq]; exact Nat.le_of_ble_eq_true rfl, [.int i tk, x'], .cons ⟨_, rfl⟩ (.cons ru .nil), _, hT2, rfl, _, rfl⟩
    have I1 := I.turnedNew (t' := tk + 1) (h' := h'') (ch := [e, it]) (fun b ob hb q => (sb.2 b (fun z => hb (by simp [z]))).trans (hk b ob (fun z => hb (by simp [z])) (fun z => hb (by simp [z])) q)) hf (Nat.le_refl _) new
    refine ⟨.ref s.heap.objs.size, _, I1, rfl, ⟨_, x, rfl, I.hok.fresh (Nat.le_refl _), rfl, fun ys hy => by rw [I.tuple_inj hy hq]; exact hx⟩, ⟨⟨x', ?_⟩, hit'.at fun o q => (sb.2 it (Ne.symm n1)).trans q⟩, fun b hb => ?_⟩
    · rw [show ((i + 1 : Nat) : Int) = (i : Int) + 1 by omega]
      exact he'
    · have hlt : b < s.heap.objs.size := by
        rcases List.mem_cons.mp hb with z | z
        · exact z ▸ lt_e
        · exact (List.mem_singleton.mp z) ▸ lt_it
      rw [upd_ne (Nat.ne_of_lt hlt)]
      exact (hf b hb).1
  done X hP hw hK hc i pins s σ H E I hf st hg := by
    subst hP hw hK
    obtain ⟨⟨old, he⟩, hit⟩ := st
    obtain ⟨xs, hq, hx⟩ := hg
    obtain ⟨its, rv, p, hz⟩ := I.tuple hq
    obtain ⟨f0, f1, f2, f3, f4, f5⟩ := hf it (List.mem_cons_of_mem _ (List.mem_singleton.mpr rfl))
    have hl := rv.length
    have D := Draws.tuple (prog := X.prog) (w := X.w) (A := X.A.in1) (I.ok.hd hc) it a n2 its.toArray
    have ei : its.toArray.size = i := by rw [List.size_toArray, ← hl]; exact hx
    exact wpAny_pyNext_enum_endD D he ⟨by rw [ei]; exact hit, p⟩ fun h' eb => ⟨rfl, I.turned (t' := s.toks) (fun b o hb q => eb b o hb q) f0 f1 f3 f4 f5⟩
  self A i s Q E st h := by
    obtain ⟨⟨_, he⟩, _⟩ := st
    exact wpAny_pyIter_enum he h
/-- enumerate of a list or of a tuple -/
def iEnumA (K : PySem.W.Frag) (ta : TA) : TI := fun σ H R => ta σ H fun vs H1 => ∃ a xs, vs = [.ref a] ∧ ((SqL K H1 a xs ∧ R (Ite K a) H1) ∨ (SqT K H1 a xs ∧ R (IteT K a) H1))
theorem pi_enumA {X : Cx} {e : Expr} {ta : TA} {p pos tpos : Pos} {elts : List Expr} {kk : Nat} (hg : Gl X "enumerate") (hm : X.mg "enumerate" = none) (ha : PA X [e] ta) (hs : starEach [e] X.env = [(false, eval e X.env)] := by rfl) :
    PI X (.Tuple elts kk tpos) (.Call (.Name "enumerate" p) [e] [] pos) (iEnumA X.K ta) := by
  refine ⟨fun pins s σ H R I h => ?_⟩
  refine PyProof.Rows.Call_ (ld_blt I hg hm PyProof.Rows.boot_enumerate (PyProof.Rows.callWith_type1 (thn (ha.run pos pins s σ H _ I h) fun us s1 ⟨vs, H1, I1, r1, q1⟩ => ?_) hs rfl))
  obtain ⟨a, xs, ex, q1⟩ := q1
  subst ex
  cases r1 with
  | cons r rr =>
    cases rr
    cases r
    have fp : ∀ b ∈ [s1.heap.objs.size + 1, s1.heap.objs.size], FpOk X pins H1 b := fun b hb => by
      have hle : s1.heap.objs.size ≤ b := by
        rcases List.mem_cons.mp hb with z | z
        · omega
        · have z := List.mem_singleton.mp z; omega
      exact I1.fpOk hle (I1.hok.fresh hle)
    rcases q1 with ⟨hq, q⟩ | ⟨hq, q⟩
    · obtain ⟨its, rv, p', hz⟩ := I1.list hq
      refine fl_enum_call (begins_list a its.toArray) p'.isList fun h' he hit hk => wpAny_pyIter_enum he ?_
      exact ⟨s1.heap.objs.size + 1, _, _, _, H1, rfl, I1.kept (t' := s1.toks) hk, turn_enum a (s1.heap.objs.size + 1) s1.heap.objs.size, ⟨⟨.none, he⟩, ⟨_, hit, rfl, rfl⟩, Nat.succ_ne_self _⟩, fp, q⟩
    · obtain ⟨its, rv, p', hz⟩ := I1.tuple hq
      have hlt : a < s1.heap.objs.size := p'.lt
      refine fl_enum_call (begins_tuple a its.toArray) p' fun h' he hit hk => wpAny_pyIter_enum he ?_
      exact ⟨s1.heap.objs.size + 1, _, _, _, H1, rfl, I1.kept (t' := s1.toks) hk, turn_enumT a (s1.heap.objs.size + 1) s1.heap.objs.size (Nat.succ_ne_self _) (Nat.ne_of_lt hlt) (Nat.ne_of_lt (Nat.lt_succ_of_lt hlt)), ⟨⟨.none, he⟩, ⟨_, hit, rfl, rfl⟩⟩, fp, q⟩
/-- any list or tuple -/
def iSeq (K : PySem.W.Frag) (tl : TE) : TI := fun σ H R => tl σ H fun x H1 => ∃ a xs, x = .ref a ∧ ((SqL K H1 a xs ∧ R (Itl K a) H1) ∨ (SqT K H1 a xs ∧ R (Itt K a) H1))
theorem pi_seq {X : Cx} {l tg : Expr} {tl : TE} (hl : PE X l tl) : PI X tg l (iSeq X.K tl) := by
  refine ⟨fun pins s σ H R I h => thn (hl.run pins s σ H _ I h) fun v s1 ⟨x, H1, I1, r1, a, xs, e, q⟩ => ?_⟩
  subst e
  cases r1
  have fp : ∀ b ∈ [s1.heap.objs.size], FpOk X pins H1 b := fun b hb => by
    have z := List.mem_singleton.mp hb
    subst z
    exact I1.fpOk (Nat.le_refl _) (I1.hok.fresh (Nat.le_refl _))
  rcases q with ⟨hq, q⟩ | ⟨hq, q⟩
  · obtain ⟨its, rv, p, hz⟩ := I1.list hq
    exact wpAny_pyIter_list p.isList ⟨s1.heap.objs.size, _, _, _, H1, rfl, I1.kept (t' := s1.toks) fun b o e => Heap.get?_push_of_some _ e, turn_list a _, ⟨_, Heap.get?_push_size _ rfl, rfl, rfl⟩, fp, q⟩
  · obtain ⟨its, rv, p, hz⟩ := I1.tuple hq
    exact wpAny_pyIter_tuple (items := its.toArray) p ⟨s1.heap.objs.size, _, _, _, H1, rfl, I1.kept (t' := s1.toks) fun b o e => Heap.get?_push_of_some _ e, turn_tuple a _, ⟨_, Heap.get?_push_size _ rfl, rfl, rfl⟩, fp, q⟩
end L2
end
section
set_option Elab.async false
set_option linter.all false
set_option maxRecDepth 100000
set_option autoImplicit false
namespace FL
open PySem L2

/-! ### what is walked -/
def mItems (m : M) : Mi := fun ρ => (m ρ).bind fun x ρ1 => match x.datR with
  | some (.list xs) => .ok xs ρ1
  | some (.tuple xs) => .ok xs ρ1
  | _ => .bad
def small : Int → Bool
  | .ofNat n => Nat.ble n 4611686018427387903
  | .negSucc n => Nat.ble n 4611686018427387903
def rangeL (lo : Int) (n : Nat) : List PyData := (List.range n).map fun i => .int (lo + (i : Nat))
def rangeC (lo c : Int) (n : Nat) : List PyData := (List.range n).map fun i => .int (lo + (i : Nat) * c)
def mRange1 (ms : Ms) : Mi := fun ρ => (ms ρ).bind fun xs ρ1 => match datRs xs with
  | some [.int n] => if small n = true then .ok (rangeL 0 n.toNat) ρ1 else .bad
  | _ => .bad
def mRange2 (ms : Ms) : Mi := fun ρ => (ms ρ).bind fun xs ρ1 => match datRs xs with
  | some [.int a, .int b] => if (small a && small b) = true then .ok (rangeL a (b - a).toNat) ρ1 else .bad
  | _ => .bad
def rsize (a b c : Int) : Nat := (Builtin.Range.rangeSize a b c).toNat
def mRange3 (ms : Ms) : Mi := fun ρ => (ms ρ).bind fun xs ρ1 => match datRs xs with
  | some [.int a, .int b, .int c] => if (decide (c ≠ 0) && (decide (c.natAbs < 1073741824) && (Builtin.Range.small a b c && decide (Builtin.Range.rangeSize a b c = (rsize a b c : Int))))) = true then .ok (rangeC a c (rsize a b c)) ρ1 else .bad
  | _ => .bad
def enumL (i : Nat) : List PyData → List PyData
  | [] => []
  | x :: xs => .tuple [.int (i : Nat), x] :: enumL (i + 1) xs
def mEnum (ms : Ms) : Mi := fun ρ => (ms ρ).bind fun xs ρ1 => match datRs xs with
  | some [.list ys] => .ok (enumL 0 ys) ρ1
  | some [.tuple ys] => .ok (enumL 0 ys) ρ1
  | _ => .bad
def mRev (ms : Ms) : Mi := fun ρ => (ms ρ).bind fun xs ρ1 => match datRs xs with
  | some [.list ys] => .ok ys.reverse ρ1
  | some [.tuple ys] => .ok ys.reverse ρ1
  | _ => .bad
def zipL : List PyData → List PyData → List PyData
  | x :: xs, y :: ys => .tuple [x, y] :: zipL xs ys
  | _, _ => []
def mZip (ms : Ms) : Mi := fun ρ => (ms ρ).bind fun xs ρ1 => match datRs xs with
  | some [.list ys, .list zs] => .ok (zipL ys zs) ρ1
  | some [.tuple ys, .tuple zs] => .ok (zipL ys zs) ρ1
  | _ => .bad
section
variable {g : Gd} {W : XW} {K : PySem.W.Frag} {σ σ' : L2.St} {ρ ρ' : Env} {H H0 H' Ho Ho' B : Hp} {F F0 G hid F1 S S' : List Addr}
theorem yl_list {a : Addr} {vs : List V} {xs : List PyData} (h : SqL K B a vs) (d : DpAll K B vs xs) : Yl K (Itl K a) xs B B := by
  have l := DpAll.length d
  refine ⟨fun i H hi s => ⟨vs, vs[i]'(by omega), s.seq h, by simp [show i < vs.length by omega]⟩, fun H s => ⟨vs, s.seq h, by omega⟩, fun i H x H' e hd s hy => ?_⟩
  obtain ⟨rfl, hy⟩ := hy
  obtain ⟨e', h1, h2⟩ := DpAll.get d (hy vs (s.seq h))
  rw [hd] at h1
  cases h1
  exact .inl ⟨rfl, fun Ho so => dp_mono so h2⟩
theorem yl_tup {a : Addr} {vs : List V} {xs : List PyData} (h : SqT K B a vs) (d : DpAll K B vs xs) : Yl K (Itt K a) xs B B := by
  have l := DpAll.length d
  refine ⟨fun i H hi s => ⟨vs, vs[i]'(by omega), Same.sqT s h, by simp [show i < vs.length by omega]⟩, fun H s => ⟨vs, Same.sqT s h, by omega⟩, fun i H x H' e hd s hy => ?_⟩
  obtain ⟨rfl, hy⟩ := hy
  obtain ⟨e', h1, h2⟩ := DpAll.get d (hy vs (Same.sqT s h))
  rw [hd] at h1
  cases h1
  exact .inl ⟨rfl, fun Ho so => dp_mono so h2⟩
theorem yl_range {lo : Int} {n : Nat} : Yl K (Itr lo n) (rangeL lo n) B B := by
  have l : (rangeL lo n).length = n := by unfold rangeL; rw [List.length_map, List.length_range]
  refine ⟨fun i H hi s => by rw [l] at hi; exact hi, fun H s => by rw [l]; exact Nat.le_refl _, fun i H x H' e hd s hy => ?_⟩
  obtain ⟨rfl, rfl⟩ := hy
  unfold rangeL at hd
  rw [List.getElem?_map] at hd
  have hi : i < n := by
    by_cases q : i < n
    · exact q
    · rw [List.getElem?_eq_none (by rw [List.length_range]; omega)] at hd; cases hd
  rw [List.getElem?_range hi] at hd
  cases hd
  exact .inl ⟨rfl, fun _ _ => .int _⟩
theorem yl_rangeC {lo c : Int} {n : Nat} : Yl K (Itc lo c n) (rangeC lo c n) B B := by
  have l : (rangeC lo c n).length = n := by unfold rangeC; rw [List.length_map, List.length_range]
  refine ⟨fun i H hi s => by rw [l] at hi; exact hi, fun H s => by rw [l]; exact Nat.le_refl _, fun i H x H' e hd s hy => ?_⟩
  obtain ⟨rfl, rfl⟩ := hy
  unfold rangeC at hd
  rw [List.getElem?_map] at hd
  have hi : i < n := by
    by_cases q : i < n
    · exact q
    · rw [List.getElem?_eq_none (by rw [List.length_range]; omega)] at hd; cases hd
  rw [List.getElem?_range hi] at hd
  cases hd
  exact .inl ⟨rfl, fun _ _ => .int _⟩
theorem enumL_length : ∀ (i : Nat) (xs : List PyData), (enumL i xs).length = xs.length
  | _, [] => rfl
  | i, x :: xs => by unfold enumL; rw [List.length_cons, List.length_cons, enumL_length (i + 1) xs]
theorem enumL_get : ∀ (i j : Nat) (xs : List PyData) (d : PyData), (enumL i xs)[j]? = some d → ∃ x, xs[j]? = some x ∧ d = .tuple [.int ((i + j : Nat) : Int), x]
  | _, _, [], _, h => by simp [enumL] at h
  | i, 0, x :: xs, d, h => by
    simp [enumL] at h
    exact ⟨x, rfl, h.symm⟩
  | i, j + 1, x :: xs, d, h => by
    obtain ⟨y, h1, h2⟩ := enumL_get (i + 1) j xs d (by simpa [enumL] using h)
    refine ⟨y, by simpa using h1, ?_⟩
    rw [h2, show i + 1 + j = i + (j + 1) by omega]
theorem pair_new {T : Addr} {x y : V} {d e : PyData} (hx : Dp K Ho x d) (hy : Dp K Ho y e) (hn : Ho T = none) : Dp K (upd Ho T (.tup [x, y])) (.ref T) (.tuple [d, e]) :=
  .tup (.of upd_same) (.cons (dp_mono (same_upd hn) hx) (.cons (dp_mono (same_upd hn) hy) .nil))
theorem yl_enum {a : Addr} {vs : List V} {xs : List PyData} (h : SqL K B a vs) (d : DpAll K B vs xs) : Yl K (Ite K a) (enumL 0 xs) B B := by
  have l := DpAll.length d
  refine ⟨fun i H hi s => by rw [enumL_length] at hi; exact ⟨vs, vs[i]'(by omega), s.seq h, by simp [show i < vs.length by omega]⟩, fun H s => ⟨vs, s.seq h, by rw [enumL_length]; omega⟩, fun i H x H' e hd s hy => ?_⟩
  obtain ⟨T, y, rfl, hn, rfl, hy⟩ := hy
  obtain ⟨e', h1, h2⟩ := DpAll.get d (hy vs (s.seq h))
  obtain ⟨z, h3, h4⟩ := enumL_get 0 i xs e hd
  rw [h1] at h3
  cases h3
  rw [h4, Nat.zero_add]
  exact .inr ⟨T, _, hn, rfl, fun Ho so hno => pair_new (.int _) (dp_mono so h2) hno⟩
theorem yl_enumT {a : Addr} {vs : List V} {xs : List PyData} (h : SqT K B a vs) (d : DpAll K B vs xs) : Yl K (IteT K a) (enumL 0 xs) B B := by
  have l := DpAll.length d
  refine ⟨fun i H hi s => by rw [enumL_length] at hi; exact ⟨vs, vs[i]'(by omega), Same.sqT s h, by simp [show i < vs.length by omega]⟩, fun H s => ⟨vs, Same.sqT s h, by rw [enumL_length]; omega⟩, fun i H x H' e hd s hy => ?_⟩
  obtain ⟨T, y, rfl, hn, rfl, hy⟩ := hy
  obtain ⟨e', h1, h2⟩ := DpAll.get d (hy vs (Same.sqT s h))
  obtain ⟨z, h3, h4⟩ := enumL_get 0 i xs e hd
  rw [h1] at h3
  cases h3
  rw [h4, Nat.zero_add]
  exact .inr ⟨T, _, hn, rfl, fun Ho so hno => pair_new (.int _) (dp_mono so h2) hno⟩
theorem zipL_get : ∀ (j : Nat) (xs ys : List PyData) (d : PyData), (zipL xs ys)[j]? = some d → ∃ x y, xs[j]? = some x ∧ ys[j]? = some y ∧ d = .tuple [x, y]
  | _, [], _, _, h => by simp [zipL] at h
  | _, _ :: _, [], _, h => by simp [zipL] at h
  | 0, x :: xs, y :: ys, d, h => by
    simp [zipL] at h
    exact ⟨x, y, rfl, rfl, h.symm⟩
  | j + 1, x :: xs, y :: ys, d, h => by
    obtain ⟨a, b, h1, h2, h3⟩ := zipL_get j xs ys d (by simpa [zipL] using h)
    exact ⟨a, b, by simpa using h1, by simpa using h2, h3⟩
theorem zipL_length : ∀ (xs ys : List PyData), (zipL xs ys).length = min xs.length ys.length
  | [], _ => by simp [zipL]
  | _ :: _, [] => by simp [zipL]
  | x :: xs, y :: ys => by
    unfold zipL
    rw [List.length_cons, List.length_cons, List.length_cons, zipL_length xs ys]
    omega
theorem yl_zip {a b : Addr} {vs ws : List V} {xs ys : List PyData} (h : SqL K B a vs) (d : DpAll K B vs xs) (h' : SqL K B b ws) (d' : DpAll K B ws ys) : Yl K (Itz K a b) (zipL xs ys) B B := by
  have l := DpAll.length d
  have l' := DpAll.length d'
  refine ⟨fun i H hi s => by rw [zipL_length] at hi; exact ⟨vs, ws, vs[i]'(by omega), ws[i]'(by omega), s.seq h, s.seq h', by simp [show i < vs.length by omega], by simp [show i < ws.length by omega]⟩, fun H s => ⟨vs, ws, s.seq h, s.seq h', by rw [zipL_length]; omega⟩, fun i H x H' e hd s hy => ?_⟩
  obtain ⟨T, y, z, rfl, hn, rfl, hy, hz⟩ := hy
  obtain ⟨e1, h1, h2⟩ := DpAll.get d (hy vs (s.seq h))
  obtain ⟨e2, h3, h4⟩ := DpAll.get d' (hz ws (s.seq h'))
  obtain ⟨u, v, q1, q2, rfl⟩ := zipL_get i xs ys e hd
  rw [h1] at q1; rw [h3] at q2
  cases q1; cases q2
  exact .inr ⟨T, _, hn, rfl, fun Ho so hno => pair_new (dp_mono so h2) (dp_mono so h4) hno⟩
theorem yl_zipT {a b : Addr} {vs ws : List V} {xs ys : List PyData} (h : SqT K B a vs) (d : DpAll K B vs xs) (h' : SqT K B b ws) (d' : DpAll K B ws ys) : Yl K (RZ.ItzT K a b) (zipL xs ys) B B := by
  have l := DpAll.length d
  have l' := DpAll.length d'
  refine ⟨fun i H hi s => by rw [zipL_length] at hi; exact ⟨vs, ws, vs[i]'(by omega), ws[i]'(by omega), Same.sqT s h, Same.sqT s h', by simp [show i < vs.length by omega], by simp [show i < ws.length by omega]⟩, fun H s => ⟨vs, ws, Same.sqT s h, Same.sqT s h', by rw [zipL_length]; omega⟩, fun i H x H' e hd s hy => ?_⟩
  obtain ⟨T, y, z, rfl, hn, rfl, hy, hz⟩ := hy
  obtain ⟨e1, h1, h2⟩ := DpAll.get d (hy vs (Same.sqT s h))
  obtain ⟨e2, h3, h4⟩ := DpAll.get d' (hz ws (Same.sqT s h'))
  obtain ⟨u, v, q1, q2, rfl⟩ := zipL_get i xs ys e hd
  rw [h1] at q1; rw [h3] at q2
  cases q1; cases q2
  exact .inr ⟨T, _, hn, rfl, fun Ho so hno => pair_new (dp_mono so h2) (dp_mono so h4) hno⟩
/-- the common part of the walked: the arguments are given up -/
theorem items_of {ms : Ms} {k : List PyData → Option (List PyData)} {R : It → Hp → Prop} {T : List V → Hp → Prop}
    (h : sI g W (fun ρ => (ms ρ).bind fun xs ρ1 => match datRs xs with | some ys => (match k ys with | some zs => .ok zs ρ1 | none => .bad) | none => .bad) σ H R)
    (hk : ∀ vs ys zs H1 B, Same B H1 → DpAll g.K B vs ys → k ys = some zs → (∀ J, Yl g.K J zs B B → R J H1) → T vs H1) : sA g W ms σ H T := by
  obtain ⟨ρ, F, hid, r, p⟩ := h
  refine ⟨ρ, F, hid, r, Post.bind (G := []) Ext.refl p fun xs ρ1 H1 F1 G1 vs r1 x1 v1 p1 => ?_⟩
  cases e : datRs xs with
  | none => simp only [e] at p1; exact p1.elim
  | some ys =>
    simp only [e] at p1
    cases e2 : k ys with
    | none => simp only [e2] at p1; exact p1.elim
    | some zs =>
      simp only [e2] at p1
      have d : DpAll g.K (off H1 (F1 ++ hid)) vs ys := rvs_dat v1 off_more (off_free r1.nd) e
      exact hk vs ys zs H1 _ off_le d e2 fun J yl => p1 H1 F1 [] J (rel_drop r1) (ext_drop x1) ⟨rfl, yl⟩
theorem sI_seq {m : M} {R : It → Hp → Prop} (h : sI g W (mItems m) σ H R) : iSeq g.K (sE g W m) σ H R := by
  obtain ⟨ρ, F, hid, r, p⟩ := h
  refine ⟨ρ, F, hid, r, Post.bind (G := []) Ext.refl p fun x ρ1 H1 F1 G1 v r1 x1 v1 p1 => ?_⟩
  cases x with
  | s i => exact p1.elim
  | o o =>
    have v1 : RO g H1 (off H1 (F1 ++ (G1 ++ hid))) v o G1 := v1
    cases e : o.dat with
    | none =>
      have e' : (Rv.o o).datR = none := e
      simp only [e'] at p1
      exact p1.elim
    | some y =>
      have e' : (Rv.o o).datR = some y := e
      simp only [e'] at p1
      have d : Dp g.K (off H1 (F1 ++ hid)) v y := ro_dat rfl off_more v1 (off_free r1.nd) e
      split at p1
      · rename_i xs hx
        cases hx
        cases d with
        | lst h1 h2 => exact ⟨_, _, rfl, .inl ⟨off_le.seq h1, p1 H1 F1 [] _ (rel_drop r1) (ext_drop x1) ⟨rfl, yl_list h1 h2⟩⟩⟩
      · rename_i xs hx
        cases hx
        cases d with
        | tup h1 h2 => exact ⟨_, _, rfl, .inr ⟨Same.sqT off_le h1, p1 H1 F1 [] _ (rel_drop r1) (ext_drop x1) ⟨rfl, yl_tup h1 h2⟩⟩⟩
      · exact p1.elim
theorem small_iff {a : Int} (h : small a = true) : -(2 ^ 62) ≤ a ∧ a < 2 ^ 62 := by
  cases a with
  | ofNat n =>
    have h := Nat.le_of_ble_eq_true h
    have e : (Int.ofNat n) = (n : Int) := rfl
    rw [e]
    omega
  | negSucc n =>
    have h := Nat.le_of_ble_eq_true h
    omega
def k1 : List PyData → Option (List PyData)
  | [.int n] => if small n = true then some (rangeL 0 n.toNat) else none
  | _ => none
def k2 : List PyData → Option (List PyData)
  | [.int a, .int b] => if (small a && small b) = true then some (rangeL a (b - a).toNat) else none
  | _ => none
def k3 : List PyData → Option (List PyData)
  | [.int a, .int b, .int c] => if (decide (c ≠ 0) && (decide (c.natAbs < 1073741824) && (Builtin.Range.small a b c && decide (Builtin.Range.rangeSize a b c = (rsize a b c : Int))))) = true then some (rangeC a c (rsize a b c)) else none
  | _ => none
def kEn : List PyData → Option (List PyData)
  | [.list ys] => some (enumL 0 ys)
  | [.tuple ys] => some (enumL 0 ys)
  | _ => none
def kZi : List PyData → Option (List PyData)
  | [.list ys, .list zs] => some (zipL ys zs)
  | [.tuple ys, .tuple zs] => some (zipL ys zs)
  | _ => none
end
def mWalk (k : List PyData → Option (List PyData)) (ms : Ms) : Mi := fun ρ => (ms ρ).bind fun xs ρ1 => match datRs xs with | some ys => (match k ys with | some zs => .ok zs ρ1 | none => .bad) | none => .bad
section
variable {X : Cx} {g : Gd} {W : XW} {tg a b c e : Expr} {es : List Expr} {ma mb mc m : M} {ms : Ms} {ta tb : Mb} {pos p : Pos}
theorem PI.imp {wi wi' : TI} (h : PI X tg e wi) (i : ∀ σ H R, wi' σ H R → wi σ H R) : PI X tg e wi' := ⟨fun pins s σ H R I q => h.run pins s σ H R I (i σ H R q)⟩
theorem fi_seq (hk : g.K = X.K) (h : PE X e (sE g W m)) : PI X tg e (sI g W (mItems m)) := PI.imp (pi_seq h) fun σ H R q => by
  have := sI_seq q
  rw [hk] at this
  exact this
theorem fi_range1 (hg : Gl X "range") (hm : X.mg "range" = none) (ha : PA X [a] (sA g W ms)) (hs : starEach [a] X.env = [(false, eval a X.env)] := by rfl) : PI X tg (.Call (.Name "range" p) [a] [] pos) (sI g W (mWalk k1 ms)) :=
  PI.imp (pi_range1 hg hm ha hs) fun σ H R q => items_of (k := k1) q fun vs ys zs H1 B so d e k => by
    unfold k1 at e
    split at e
    · split at e
      · rename_i n hn
        cases e
        cases d with
        | cons d r =>
          cases r
          cases d
          exact ⟨n, rfl, (small_iff hn).1, (small_iff hn).2, k _ yl_range⟩
      · cases e
    · cases e
theorem fi_range2 (hg : Gl X "range") (hm : X.mg "range" = none) (ha : PA X [a, b] (sA g W ms)) (hs : starEach [a, b] X.env = [(false, eval a X.env), (false, eval b X.env)] := by rfl) (hs2 : starEach [b] X.env = [(false, eval b X.env)] := by rfl) :
    PI X tg (.Call (.Name "range" p) [a, b] [] pos) (sI g W (mWalk k2 ms)) :=
  PI.imp (pi_range2 hg hm ha hs hs2) fun σ H R q => items_of (k := k2) q fun vs ys zs H1 B so d e k => by
    unfold k2 at e
    split at e
    · split at e
      · rename_i i j hn
        cases e
        rw [Bool.and_eq_true] at hn
        cases d with
        | cons d r =>
          cases r with
          | cons d' r =>
            cases r
            cases d
            cases d'
            exact ⟨i, j, rfl, ⟨(small_iff hn.1).1, (small_iff hn.1).2, (small_iff hn.2).1, (small_iff hn.2).2⟩, k _ yl_range⟩
      · cases e
    · cases e
theorem fi_range3 (hg : Gl X "range") (hm : X.mg "range" = none) (ha : PA X [a, b, c] (sA g W ms))
    (hs : starEach [a, b, c] X.env = (false, eval a X.env) :: starEach [b, c] X.env := by rfl) (hpl : (backTo pos (starEach [b, c] X.env)).any (·.1) = false := by rfl) : PI X tg (.Call (.Name "range" p) [a, b, c] [] pos) (sI g W (mWalk k3 ms)) :=
  PI.imp (pi_range3 hg hm ha hs hpl) fun σ H R q => items_of (k := k3) q fun vs ys zs H1 B so d e k => by
    unfold k3 at e
    split at e
    · split at e
      · rename_i i j l hn
        cases e
        simp only [Bool.and_eq_true, decide_eq_true_eq] at hn
        obtain ⟨c0, c1, c2, c3⟩ := hn
        cases d with
        | cons d r =>
          cases r with
          | cons d' r =>
            cases r with
            | cons d'' r =>
              cases r
              cases d
              cases d'
              cases d''
              exact ⟨i, j, l, _, rfl, ⟨c0, c1, c2, c3⟩, k _ yl_rangeC⟩
      · cases e
    · cases e
theorem fi_enum {tpos : Pos} {elts : List Expr} {kk : Nat} (hk : g.K = X.K) (hg : Gl X "enumerate") (hm : X.mg "enumerate" = none) (ha : PA X [e] (sA g W ms)) (hs : starEach [e] X.env = [(false, eval e X.env)] := by rfl) :
    PI X (.Tuple elts kk tpos) (.Call (.Name "enumerate" p) [e] [] pos) (sI g W (mWalk kEn ms)) :=
  PI.imp (pi_enumA hg hm ha hs) fun σ H R q => items_of (k := kEn) q fun vs ys zs H1 B so d e k => by
    unfold kEn at e
    rw [← hk]
    split at e
    · cases e
      cases d with
      | cons d r =>
        cases r
        cases d with
        | lst h1 h2 => exact ⟨_, _, rfl, .inl ⟨so.seq h1, k _ (yl_enum h1 h2)⟩⟩
    · cases e
      cases d with
      | cons d r =>
        cases r
        cases d with
        | tup h1 h2 => exact ⟨_, _, rfl, .inr ⟨Same.sqT so h1, k _ (yl_enumT h1 h2)⟩⟩
    · cases e
theorem fi_zip {tpos : Pos} {elts : List Expr} {kk : Nat} (hk : g.K = X.K) (hg : Gl X "zip") (hm : X.mg "zip" = none) (ha : PA X [a, b] (sA g W ms)) (hs : starEach [a, b] X.env = (false, eval a X.env) :: starEach [b] X.env := by rfl) (hpl : (backTo pos (starEach [b] X.env)).any (·.1) = false := by rfl) :
    PI X (.Tuple elts kk tpos) (.Call (.Name "zip" p) [a, b] [] pos) (sI g W (mWalk kZi ms)) :=
  PI.imp (RZ.pi_zipA hg hm ha hs hpl) fun σ H R q => items_of (k := kZi) q fun vs ys zs H1 B so d e k => by
    unfold kZi at e
    rw [← hk]
    split at e
    · cases e
      cases d with
      | cons d r =>
        cases r with
        | cons d' r =>
          cases r
          cases d with
          | lst h1 h2 =>
            cases d' with
            | lst h3 h4 => exact ⟨_, _, _, _, rfl, .inl ⟨so.seq h1, so.seq h3, k _ (yl_zip h1 h2 h3 h4)⟩⟩
    · cases e
      cases d with
      | cons d r =>
        cases r with
        | cons d' r =>
          cases r
          cases d with
          | tup h1 h2 =>
            cases d' with
            | tup h3 h4 => exact ⟨_, _, _, _, rfl, .inr ⟨Same.sqT so h1, Same.sqT so h3, k _ (yl_zipT h1 h2 h3 h4)⟩⟩
    · cases e
end
end FL
end
section
set_option Elab.async false
set_option linter.all false
set_option maxRecDepth 100000
set_option autoImplicit false
namespace FL
open PySem L2

/-! ### what stands in a slot is changed -/
section
variable {g : Gd} {W : XW} {K : PySem.W.Frag} {σ σ' : L2.St} {ρ ρ' : Env} {H H0 H' Ho Ho' B : Hp} {F F0 G hid F1 S S' : List Addr}
/-- the object a in the slot j becomes o', of parts that stood below it or were fresh (FN); others (FR) leave it -/
theorem Rel.write {j : Nat} {o : O} {G1 : List Addr} (r : Rel g H σ ρ F (G1 ++ hid)) (ho : ρ[j]? = some (some o)) : ∃ v Fj, σ[j]? = some (some v) ∧ (∀ x ∈ Fj, x ∈ F) ∧ (Fj ++ G1).Nodup ∧ RO g H (off H (F ++ (G1 ++ hid))) v o Fj ∧
    ∀ (a : Addr) (FT FN FR : List Addr) (u : HO) (o' : O), v = .ref a → Fj = a :: FT → (a :: (FN ++ FR)).Nodup → (∀ x ∈ FN ++ FR, x ∈ FT ++ G1) → RO g (upd H a u) (off H (F ++ (G1 ++ hid))) v o' (a :: FN) →
      ∃ F'', Rel g (upd H a u) σ (ρ.set j (some o')) F'' (FR ++ hid) ∧ Ext hid H (F ++ (G1 ++ hid)) (upd H a u) (F'' ++ (FR ++ hid)) ∧ (∀ x ∈ F ++ (G1 ++ hid), x ≠ a → upd H a u x = H x) ∧ Same (off H (F ++ (G1 ++ hid))) (off (upd H a u) (F'' ++ (FR ++ hid))) := by
  obtain ⟨v, Fj, Gj, e1, pm, ro, k⟩ := r.env.focus ho
  obtain ⟨n1, n2, n3⟩ := List.nodup_append.mp r.nd
  have nj := pm.nodup_iff.mp n1
  obtain ⟨p1, p2, p3⟩ := List.nodup_append.mp nj
  obtain ⟨q1, q2, q3⟩ := List.nodup_append.mp n2
  have sj : ∀ x ∈ Fj, x ∈ F := fun x m => pm.mem_iff.mpr (List.mem_append_left _ m)
  have sg : ∀ x ∈ Gj, x ∈ F := fun x m => pm.mem_iff.mpr (List.mem_append_right _ m)
  refine ⟨v, Fj, e1, sj, List.nodup_append.mpr ⟨p1, q1, fun a m b m' => n3 a (sj a m) b (List.mem_append_left _ m')⟩, ro, ?_⟩
  intro a FT FN FR u o' ev ej nd sub ro'
  subst ev ej
  have aF : a ∈ F := sj a List.mem_cons_self
  have aS : a ∈ F ++ (G1 ++ hid) := List.mem_append_left _ aF
  have ho2 : Same (off H (F ++ (G1 ++ hid))) (off (upd H a u) (F ++ (G1 ++ hid))) := by rw [off_upd aS]; exact Same.refl _
  have nGa : ∀ x ∈ Gj, x ≠ a := fun x m z => p3 a List.mem_cons_self x m z.symm
  obtain ⟨_, _, k3⟩ := k (upd H a u) (off H (F ++ (G1 ++ hid))) (fun x m => upd_ne (nGa x m)) (Same.refl _)
  obtain ⟨F2, pm2, re2⟩ := k3 (.ref a) o' (a :: FN) ro'
  have es : σ.set j (some (V.ref a)) = σ := set_same e1
  rw [es] at re2
  -- membership of the new footprints
  have m2 : ∀ x ∈ F2 ++ (FR ++ hid), x ∈ F ++ (G1 ++ hid) := fun x m => by
    rcases List.mem_append.mp m with z | z
    · rcases List.mem_append.mp (pm2.mem_iff.mp z) with z | z
      · rcases List.mem_cons.mp z with z | z
        · exact z ▸ aS
        · rcases List.mem_append.mp (sub x (List.mem_append_left _ z)) with y | y
          · exact List.mem_append_left _ (sj x (List.mem_cons_of_mem _ y))
          · exact List.mem_append_right _ (List.mem_append_left _ y)
      · exact List.mem_append_left _ (sg x z)
    · rcases List.mem_append.mp z with z | z
      · rcases List.mem_append.mp (sub x (List.mem_append_right _ z)) with y | y
        · exact List.mem_append_left _ (sj x (List.mem_cons_of_mem _ y))
        · exact List.mem_append_right _ (List.mem_append_left _ y)
      · exact List.mem_append_right _ (List.mem_append_right _ z)
  have below : ∀ x ∈ FN ++ FR, ∀ y ∈ Gj ++ hid, x ≠ y := fun x m y m' => by
    rcases List.mem_append.mp (sub x m) with z | z
    · rcases List.mem_append.mp m' with w | w
      · exact p3 x (List.mem_cons_of_mem _ z) y w
      · exact n3 x (sj x (List.mem_cons_of_mem _ z)) y (List.mem_append_right _ w)
    · rcases List.mem_append.mp m' with w | w
      · exact fun q => n3 y (sg y w) x (List.mem_append_left _ z) q.symm
      · exact q3 x z y w
  have nd2 : (F2 ++ (FR ++ hid)).Nodup := by
    obtain ⟨d1, d2⟩ := List.nodup_cons.mp nd
    obtain ⟨d3, d4, d5⟩ := List.nodup_append.mp d2
    have nF2 : F2.Nodup := pm2.nodup_iff.mpr (List.nodup_append.mpr ⟨List.nodup_cons.mpr ⟨fun z => d1 (List.mem_append_left _ z), d3⟩, p2, fun x m y m' => by
      rcases List.mem_cons.mp m with z | z
      · rw [z]; exact Ne.symm (nGa y m')
      · exact below x (List.mem_append_left _ z) y (List.mem_append_left _ m')⟩)
    have nR : (FR ++ hid).Nodup := List.nodup_append.mpr ⟨d4, q2, fun x m y m' => below x (List.mem_append_right _ m) y (List.mem_append_right _ m')⟩
    refine List.nodup_append.mpr ⟨nF2, nR, fun x m y m' => ?_⟩
    rcases List.mem_append.mp (pm2.mem_iff.mp m) with z | z
    · rcases List.mem_cons.mp z with z | z
      · subst z
        rcases List.mem_append.mp m' with w | w
        · exact fun q => d1 (List.mem_append_right _ (q ▸ w))
        · exact n3 x aF y (List.mem_append_right _ w)
      · rcases List.mem_append.mp m' with w | w
        · exact d5 x z y w
        · exact below x (List.mem_append_left _ z) y (List.mem_append_right _ w)
    · rcases List.mem_append.mp m' with w | w
      · exact fun q => below y (List.mem_append_right _ w) x (List.mem_append_left _ z) q.symm
      · exact n3 x (sg x z) y (List.mem_append_right _ w)
  have a2 : a ∈ F2 ++ (FR ++ hid) := List.mem_append_left _ (pm2.mem_iff.mpr (List.mem_append_left _ List.mem_cons_self))
  have so : Same (off H (F ++ (G1 ++ hid))) (off (upd H a u) (F2 ++ (FR ++ hid))) := by rw [off_upd a2]; exact off_sub m2
  refine ⟨F2, ⟨renv_mono so re2 fun _ _ => rfl, nd2, fun x m => ?_⟩, ⟨so, fun c m => upd_ne fun z => n3 a aF c (List.mem_append_right _ m) z.symm⟩, fun x _ nx => upd_ne nx, so⟩
  by_cases z : x = a
  · rw [z, upd_same]; exact fun q => by cases q
  · rw [upd_ne z]; exact r.tr x (m2 x m)
end

/-! ### methods of a list in a slot -/
/-- a list of one's own stands there -/
def isL (ρ : Env) (j : Nat) : Bool := match ρ[j]? with | some (some (.lst _)) => true | _ => false
def mAppend (j : Nat) (m : M) : M := fun ρ => if isL ρ j = true then ((m ρ).bind fun x ρ1 => match x.own with
  | some y => (match ρ1[j]? with
    | some (some (.lst os)) => if decide (os.length < 16777216) = true then .ok (.o (.d .none)) (ρ1.set j (some (.lst (os ++ [y])))) else .bad
    | _ => .bad)
  | none => .bad) else .bad
/-- all that a view or an owned list of data has -/
def itemsR (ρ : Env) (x : Rv) : Option (List PyData) := match x.view ρ with | some (.list ys) => some ys | _ => none
def mExtend (j : Nat) (m : M) : M := fun ρ => if isL ρ j = true then ((m ρ).bind fun x ρ1 => match x with
  | .o (.lst ys) => (match ρ1[j]? with
    | some (some (.lst os)) => if decide (os.length + ys.length ≤ 16777216) = true then .ok (.o (.d .none)) (ρ1.set j (some (.lst (os ++ ys)))) else .bad
    | _ => .bad)
  | _ => .bad) else .bad
def mPop (j : Nat) : M := fun ρ => match ρ[j]? with
  | some (some (.lst os)) => (match os[os.length - 1]? with
    | some x => .ok (.o x) (ρ.set j (some (.lst os.dropLast)))
    | none => .bad)
  | _ => .bad
def intR (ρ : Env) (x : Rv) : Option Int := match x.view ρ with | some (.int i) => some i | _ => none
def mPopAt (j : Nat) (m : M) : M := fun ρ => if isL ρ j = true then ((m ρ).bind fun x ρ1 => match intR ρ1 x with
  | some i => (match ρ1[j]? with
    | some (some (.lst os)) => if (decide (0 ≤ i) && decide (i < 9223372036854775808)) = true then (match os[i.toNat]? with
      | some y => .ok (.o y) (ρ1.set j (some (.lst (os.eraseIdx i.toNat))))
      | none => .bad) else .bad
    | _ => .bad)
  | none => .bad) else .bad
def mSetIx (j : Nat) (mv mi : M) : MS := fun ρ => (mv ρ).toS fun x ρ1 => match x.own with
  | some y => if isL ρ1 j = true then ((mi ρ1).toS fun k ρ2 => match intR ρ2 k with
    | some i => (match ρ2[j]? with
      | some (some (.lst os)) => (match ixN os.length i with
        | some p => .nx (ρ2.set j (some (.lst (os.set p y))))
        | none => .bad)
      | _ => .bad)
    | none => .bad) else .bad
  | none => .bad
section
variable {g : Gd} {W : XW} {keep : List Nat} {K : PySem.W.Frag} {σ σ' : L2.St} {ρ ρ' : Env} {H H0 H' Ho Ho' B : Hp} {F F0 G hid F1 S S' : List Addr}
theorem rv_int {v : V} {x : Rv} {i : Int} {F2 G1 T : List Addr} (h : RV g σ H (off H S) v x G1) (o : Same (off H S) (off H' (F2 ++ T))) (k : ∀ a ∈ G1, H' a = H a) (r2 : Rel g H' σ ρ F2 T) (e : intR ρ x = some i) : v = .int i := by
  unfold intR at e
  split at e
  · rename_i i' hv
    cases e
    exact (rv_view h o k r2 hv).int
  · cases e
theorem rv_own {v : V} {x : Rv} {y : O} (h : RV g σ H Ho v x F) (e : x.own = some y) : RO g H Ho v y F := by
  cases x with
  | s i => cases e
  | o o =>
    cases e
    exact h
theorem ros_get : ∀ {vs : List V} {os : List O} {F : List Addr} {i : Nat} {o : O}, ROs g H Ho vs os F → os[i]? = some o → ∃ v F1 F2, vs[i]? = some v ∧ RO g H Ho v o F1 ∧ ROs g H Ho (vs.eraseIdx i) (os.eraseIdx i) F2 ∧ F.Perm (F2 ++ F1)
  | _, _, _, _, _, .nil, e => by simp at e
  | _, _, _, 0, _, .cons (F := F) (F' := F') h r, e => by
    simp at e
    subst e
    exact ⟨_, F, F', rfl, h, r, List.perm_append_comm⟩
  | _, _, _, i + 1, _, .cons (F := F) (F' := F') h r, e => by
    obtain ⟨v, F1, F2, e1, ro, rs, pm⟩ := ros_get (i := i) r (by simpa using e)
    refine ⟨v, F1, F ++ F2, by simpa using e1, ro, .cons h rs, ?_⟩
    rw [List.append_assoc]
    exact List.Perm.append_left F pm
theorem ros_append : ∀ {vs ws : List V} {os us : List O} {F F' : List Addr}, ROs g H Ho vs os F → ROs g H Ho ws us F' → ROs g H Ho (vs ++ ws) (os ++ us) (F ++ F')
  | _, _, _, _, _, _, .nil, s => s
  | _, _, _, _, _, _, .cons h r, s => by
    rw [List.append_assoc]
    exact ROs.cons h (ros_append r s)
theorem ros_set : ∀ {vs : List V} {os : List O} {F F' : List Addr} {i : Nat} {v : V} {o : O}, ROs g H Ho vs os F → RO g H Ho v o F' → i < os.length → ∃ F2, ROs g H Ho (vs.set i v) (os.set i o) F2 ∧ ∃ F3, F2.Perm (F' ++ F3) ∧ F3.Sublist F
  | _, _, _, _, _, _, _, .nil, _, h => by simp at h
  | _, _, _, F', 0, v, o, .cons (F := F) (F' := Fr) h r, h', _ => ⟨F' ++ Fr, .cons h' r, Fr, List.Perm.refl _, List.sublist_append_right _ _⟩
  | _, _, _, F', i + 1, v, o, .cons (F := F) (F' := Fr) h r, h', hl => by
    obtain ⟨F2, r2, F3, pm, sl⟩ := ros_set (i := i) r h' (by simpa using hl)
    refine ⟨F ++ F2, .cons h r2, F ++ F3, ?_, List.Sublist.append_left sl F⟩
    refine (List.Perm.append_left F pm).trans ?_
    rw [← List.append_assoc, ← List.append_assoc]
    exact List.Perm.append_right F3 List.perm_append_comm
theorem ro_lst {v : V} {os : List O} (h : RO g H Ho v (.lst os) F) : ∃ a vs FT, v = .ref a ∧ F = a :: FT ∧ H a = some (.lst vs) ∧ ROs g H Ho vs os FT := by
  cases h with
  | lst h1 h2 => exact ⟨_, _, _, rfl, rfl, h1, h2⟩
theorem ro_upd {a : Addr} {u : HO} {v : V} {o : O} (h : RO g H Ho v o F) (n : a ∉ F) : RO g (upd H a u) Ho v o F := ro_mono (Same.refl _) h fun x m => upd_ne fun z => n (z ▸ m)
theorem ros_upd {a : Addr} {u : HO} {vs : List V} {os : List O} (h : ROs g H Ho vs os F) (n : a ∉ F) : ROs g (upd H a u) Ho vs os F := ros_mono (Same.refl _) h fun x m => upd_ne fun z => n (z ▸ m)
theorem isL_at {j : Nat} (r : Rel g H σ ρ F hid) (h : isL ρ j = true) : ∃ a vs, σ[j]? = some (some (.ref a)) ∧ H a = some (.lst vs) := by
  unfold isL at h
  split at h
  · rename_i os ho
    obtain ⟨v, F1, G, e1, _, ro, _⟩ := r.env.focus ho
    obtain ⟨a, vs, FT, rfl, _, h1, _⟩ := ro_lst ro
    exact ⟨a, vs, e1, h1⟩
  · cases h
theorem tyV_lst {a : Addr} {vs : List V} (h : H a = some (.lst vs)) : tyV K "list" (.ref a) H := .inl ⟨rfl, vs, .of h⟩
/-- a method of the list in the slot j with one argument -/
theorem meth1 {j : Nat} {m : M} {k : Rv → Env → R Rv} {r : V → List V → Hp → VK → Prop} {Q : V → Hp → Prop} (h : sE g W (fun ρ => if isL ρ j = true then (m ρ).bind k else .bad) σ H Q)
    (hk : ∀ x ρ1 H1 F0 hid F1 G1 w a, Rel g H1 σ ρ1 F1 (G1 ++ hid) → Ext hid H (F0 ++ hid) H1 (F1 ++ (G1 ++ hid)) → RV g σ H1 (off H1 (F1 ++ (G1 ++ hid))) w x G1 → σ[j]? = some (some (.ref a)) → Post g W (RV g) σ hid H F0 Q (k x ρ1) → r (.ref a) [w] H1 Q) :
    tBM g.K "list" r (tVar j) (tCons (sE g W m) tNil) σ H Q := by
  obtain ⟨ρ, F, hid, rl, p⟩ := h
  by_cases hl : isL ρ j = true
  · simp only [hl, if_true] at p
    obtain ⟨a, vs, e1, h1⟩ := isL_at rl hl
    exact ⟨.ref a, e1, tyV_lst h1, ρ, F, hid, rl, Post.bind (G := []) Ext.refl p fun x ρ1 H1 F1 G1 w r1 x1 v1 p1 => hk x ρ1 H1 F hid F1 G1 w a r1 x1 v1 e1 p1⟩
  · simp only [hl] at p
    exact p.elim
theorem sE_append {j : Nat} {m : M} {Q : V → Hp → Prop} (h : sE g W (mAppend j m) σ H Q) : tBM g.K "list" rAppend (tVar j) (tCons (sE g W m) tNil) σ H Q :=
  meth1 h fun x ρ1 H1 F0 hid F1 G1 w a r1 x1 v1 e1 p1 => by
    cases e : x.own with
    | none => simp only [e] at p1; exact p1.elim
    | some y =>
      simp only [e] at p1
      split at p1
      · rename_i os ho
        split at p1
        · rename_i hlen
          have hlen := of_decide_eq_true hlen
          obtain ⟨v, Fj, e2, sub, nd, ro, wr⟩ := r1.write ho
          rw [e1] at e2
          cases e2
          obtain ⟨a', vs, FT, ea, eF, h1, rs⟩ := ro_lst ro
          cases ea
          subst eF
          have ry := rv_own v1 e
          obtain ⟨nFT, nG, ndis⟩ := List.nodup_append.mp nd
          have na : a ∉ FT := (List.nodup_cons.mp nFT).1
          have nag : a ∉ G1 := fun m => ndis a List.mem_cons_self a m rfl
          refine ⟨a, vs, w, rfl, rfl, h1, by rw [line_eq, ROs.length rs]; exact hlen, ?_⟩
          obtain ⟨F'', r2, x2, _, _⟩ := wr a FT (FT ++ G1) [] (.lst (vs ++ [w])) (.lst (os ++ [y])) rfl rfl (by rw [List.append_nil]; exact nd) (fun x m => by rw [List.append_nil] at m; exact m)
            (.lst upd_same (ros_snoc (ros_upd rs na) (ro_upd ry nag)))
          exact Post.finD (S0 := []) p1 r2 (x1.trans x2) .non
        · exact p1.elim
      · exact p1.elim
theorem sE_extend {j : Nat} {m : M} {Q : V → Hp → Prop} (h : sE g W (mExtend j m) σ H Q) : tBM g.K "list" rExtend (tVar j) (tCons (sE g W m) tNil) σ H Q :=
  meth1 h fun x ρ1 H1 F0 hid F1 G1 w a r1 x1 v1 e1 p1 => by
    split at p1
    · rename_i ys
      split at p1
      · rename_i os ho
        split at p1
        · rename_i hlen
          have hlen := of_decide_eq_true hlen
          obtain ⟨v, Fj, e2, sub, nd, ro, wr⟩ := r1.write ho
          rw [e1] at e2
          cases e2
          obtain ⟨a', vs, FT, ea, eF, h1, rs⟩ := ro_lst ro
          cases ea
          subst eF
          obtain ⟨b, ws, GT, rfl, eG, h2, rs2⟩ := ro_lst (show RO g H1 _ w (.lst ys) G1 from v1)
          subst eG
          obtain ⟨nFT, nG, ndis⟩ := List.nodup_append.mp nd
          have na : a ∉ FT := (List.nodup_cons.mp nFT).1
          have nag : a ∉ GT := fun m => ndis a List.mem_cons_self a (List.mem_cons_of_mem _ m) rfl
          refine ⟨a, b, vs, ws, rfl, rfl, h1, h2, by rw [line_eq, ROs.length rs, ROs.length rs2]; exact hlen, ?_⟩
          have sl : ((a :: FT) ++ GT).Sublist ((a :: FT) ++ b :: GT) := List.Sublist.append_left (List.sublist_cons_self _ _) _
          obtain ⟨F'', r2, x2, _, _⟩ := wr a FT (FT ++ GT) [] (.lst (vs ++ ws)) (.lst (os ++ ys)) rfl rfl (by rw [List.append_nil]; exact sl.nodup nd) (fun x m => by
              rw [List.append_nil] at m
              exact (List.mem_append.mp m).elim (List.mem_append_left _) fun z => List.mem_append_right _ (List.mem_cons_of_mem _ z))
            (.lst upd_same (ros_append (ros_upd rs na) (ros_upd rs2 nag)))
          exact Post.finD (S0 := []) p1 r2 (x1.trans x2) .non
        · exact p1.elim
      · exact p1.elim
    · exact p1.elim
theorem sE_popAt {j : Nat} {m : M} {Q : V → Hp → Prop} (h : sE g W (mPopAt j m) σ H Q) : tBM g.K "list" rPopAt (tVar j) (tCons (sE g W m) tNil) σ H Q :=
  meth1 h fun x ρ1 H1 F0 hid F1 G1 w a r1 x1 v1 e1 p1 => by
    cases e : intR ρ1 x with
    | none => simp only [e] at p1; exact p1.elim
    | some i =>
      simp only [e] at p1
      have ew := rv_int v1 (Same.refl _) (fun _ _ => rfl) r1 e
      subst ew
      split at p1
      · rename_i os ho
        split at p1
        · rename_i hi
          simp only [Bool.and_eq_true, decide_eq_true_eq] at hi
          split at p1
          · rename_i y hy
            obtain ⟨v, Fj, e2, sub, nd, ro, wr⟩ := r1.write ho
            rw [e1] at e2
            cases e2
            obtain ⟨a', vs, FT, ea, eF, h1, rs⟩ := ro_lst ro
            cases ea
            subst eF
            obtain ⟨u, Fy, Fr, eu, ry, rr, pm⟩ := ros_get rs hy
            obtain ⟨nFT, nG, ndis⟩ := List.nodup_append.mp nd
            have na : a ∉ FT := (List.nodup_cons.mp nFT).1
            have nar : a ∉ Fr := fun m => na (pm.mem_iff.mpr (List.mem_append_left _ m))
            have nay : a ∉ Fy := fun m => na (pm.mem_iff.mpr (List.mem_append_right _ m))
            have hl := ROs.length rs
            have hlt : i.toNat < vs.length := (List.getElem?_eq_some_iff.mp eu).1
            refine ⟨a, vs, i, i.toNat, u, rfl, rfl, h1, by omega, by omega, seqIndex_of hi.1 (by omega), eu, ?_⟩
            obtain ⟨F'', r2, x2, _, so⟩ := wr a FT Fr Fy (.lst (vs.eraseIdx i.toNat)) (.lst (os.eraseIdx i.toNat)) rfl rfl (List.nodup_cons.mpr ⟨fun m => na (pm.mem_iff.mpr m), pm.nodup_iff.mp (List.nodup_cons.mp nFT).2⟩)
              (fun x m => List.mem_append_left _ (pm.mem_iff.mpr m)) (.lst upd_same (ros_upd rr nar))
            exact p1 _ F'' Fy u r2 (x1.trans x2) (ro_mono so ry fun x m => upd_ne fun z => nay (z ▸ m))
          · exact p1.elim
        · exact p1.elim
      · exact p1.elim
theorem sE_pop {j : Nat} {Q : V → Hp → Prop} (h : sE g W (mPop j) σ H Q) : tBM0 g.K "list" rPop (tVar j) σ H Q := by
  obtain ⟨ρ, F, hid, r1, p1⟩ := h
  unfold mPop at p1
  split at p1
  · rename_i os ho
    split at p1
    · rename_i y hy
      obtain ⟨v, Fj, e2, sub, nd, ro, wr⟩ := Rel.write (G1 := []) (hid := hid) r1 ho
      obtain ⟨a, vs, FT, rfl, eF, h1, rs⟩ := ro_lst ro
      subst eF
      obtain ⟨u, Fy, Fr, eu, ry, rr, pm⟩ := ros_get rs hy
      rw [List.append_nil] at nd
      have na : a ∉ FT := (List.nodup_cons.mp nd).1
      have nar : a ∉ Fr := fun m => na (pm.mem_iff.mpr (List.mem_append_left _ m))
      have nay : a ∉ Fy := fun m => na (pm.mem_iff.mpr (List.mem_append_right _ m))
      have hl := ROs.length rs
      have hpos : os.length - 1 < os.length := (List.getElem?_eq_some_iff.mp hy).1
      have d1 : vs.eraseIdx (os.length - 1) = vs.dropLast := List.eraseIdx_eq_dropLast (by omega)
      have d2 : os.eraseIdx (os.length - 1) = os.dropLast := List.eraseIdx_eq_dropLast (by omega)
      rw [d1, d2] at rr
      refine ⟨.ref a, e2, tyV_lst h1, a, vs, u, rfl, rfl, h1, by rw [hl]; exact eu, ?_⟩
      obtain ⟨F'', r2, x2, _, so⟩ := wr a FT Fr Fy (.lst vs.dropLast) (.lst os.dropLast) rfl rfl (List.nodup_cons.mpr ⟨fun m => na (pm.mem_iff.mpr m), pm.nodup_iff.mp (List.nodup_cons.mp nd).2⟩)
        (fun x m => List.mem_append_left _ (pm.mem_iff.mpr m)) (.lst upd_same (ros_upd rr nar))
      exact p1 _ F'' Fy u r2 x2 (ro_mono so ry fun x m => upd_ne fun z => nay (z ▸ m))
    · exact p1.elim
  · exact p1.elim
theorem Post.toSG {α β : Type} {RA : L2.St → Hp → Hp → β → α → List Addr → Prop} {m : R α} {k : α → Env → RS} {Q1 : β → Hp → Prop} {D : Ends} (x : Ext hid H (F ++ hid) H0 (F0 ++ (G ++ hid))) (h : PostS g W keep σ hid H F D (m.toS k))
    (hk : ∀ o ρ' H' F' F1 v, Rel g H' σ ρ' F' (F1 ++ (G ++ hid)) → Ext (G ++ hid) H0 (F0 ++ (G ++ hid)) H' (F' ++ (F1 ++ (G ++ hid))) → RA σ H' (off H' (F' ++ (F1 ++ (G ++ hid)))) v o F1 → PostS g W keep σ hid H F D (k o ρ') → Q1 v H') :
    Post g W RA σ (G ++ hid) H0 F0 Q1 m := by
  cases m with
  | ok o ρ' => exact fun H' F' F1 v r' x' ra => hk o ρ' H' F' F1 v r' x' ra h
  | exc e ρ' =>
    have h : PostS g W keep σ hid H F D (.exc e ρ') := h
    have sub : ∀ (F' : List Addr), ∀ a ∈ F' ++ hid, a ∈ F' ++ (G ++ hid) := fun F' a m => (List.mem_append.mp m).elim (List.mem_append_left _) fun z => List.mem_append_right _ (List.mem_append_right _ z)
    exact fun H' F' cls dd r' x' xr => h H' F' σ cls dd (rel_drop r') ((x.trans (x'.less fun c m => List.mem_append_right _ m)).trans (Ext.sub (sub F'))) (fun _ _ => rfl) (xr_mono xr (off_sub (sub F')))
  | bad => exact h
/-- xs[i] = e -/
theorem sS_setIx {j : Nat} {mv mi : M} {D : Ends} (h : sS g W keep (mSetIx j mv mi) D σ H) : tAsg (sE g W mv) (gSub (tVar j) (sE g W mi) rSetL) D σ H := by
  obtain ⟨ρ, F, hid, r, p⟩ := h
  refine ⟨ρ, F, hid, r, Post.toSG (G := []) Ext.refl p fun x ρ1 H1 F1 G1 w r1 x1 v1 p1 => ?_⟩
  cases e : x.own with
  | none => simp only [e] at p1; exact p1.elim
  | some y =>
    simp only [e] at p1
    split at p1
    · rename_i hl
      obtain ⟨a, vs0, e1, _⟩ := isL_at r1 hl
      refine ⟨.ref a, e1, ρ1, F1, G1 ++ hid, r1, Post.toSG (G := G1) x1 p1 fun k ρ2 H2 F2 G2 u r2 x2 v2 p2 => ?_⟩
      cases e2 : intR ρ2 k with
      | none => simp only [e2] at p2; exact p2.elim
      | some i =>
        simp only [e2] at p2
        have eu := rv_int v2 (Same.refl _) (fun _ _ => rfl) r2 e2
        subst eu
        split at p2
        · rename_i os ho
          split at p2
          · rename_i q hq
            have r2 : Rel g H2 σ ρ2 F2 (G1 ++ hid) := rel_drop r2
            have x2 : Ext (G1 ++ hid) H1 (F1 ++ (G1 ++ hid)) H2 (F2 ++ (G1 ++ hid)) := ext_drop x2
            obtain ⟨v, Fj, e3, sub, nd, ro, wr⟩ := r2.write ho
            rw [e1] at e3
            cases e3
            obtain ⟨a', vs, FT, ea, eF, h1, rs⟩ := ro_lst ro
            cases ea
            subst eF
            have ry : RO g H2 (off H2 (F2 ++ (G1 ++ hid))) w y G1 := ro_mono x2.op (rv_own v1 e) fun c m => x2.hd c (List.mem_append_left _ m)
            obtain ⟨nFT, nG, ndis⟩ := List.nodup_append.mp nd
            have na : a ∉ FT := (List.nodup_cons.mp nFT).1
            have nag : a ∉ G1 := fun m => ndis a List.mem_cons_self a m rfl
            have hl := ROs.length rs
            have hql : q < os.length := ixN_lt hq
            obtain ⟨F3, r3, F4, pm, sl⟩ := ros_set (ros_upd (u := .lst (vs.set q w)) rs na) (ro_upd (u := .lst (vs.set q w)) ry nag) hql
            refine ⟨a, vs, i, q, rfl, rfl, h1, by rw [hl]; exact hq, ?_⟩
            obtain ⟨F'', r5, x5, _, so⟩ := wr a FT F3 [] (.lst (vs.set q w)) (.lst (os.set q y)) rfl rfl
              (by
                rw [List.append_nil]
                have n4 : (F4 ++ G1).Nodup := (List.Sublist.append_right (sl.trans (List.sublist_cons_self a FT)) G1).nodup nd
                refine List.nodup_cons.mpr ⟨fun m => ?_, (pm.trans List.perm_append_comm).nodup_iff.mpr n4⟩
                rcases List.mem_append.mp (pm.mem_iff.mp m) with z | z
                · exact nag z
                · exact na (sl.subset z))
              (fun c m => by
                rw [List.append_nil] at m
                rcases List.mem_append.mp (pm.mem_iff.mp m) with z | z
                · exact List.mem_append_right _ z
                · exact List.mem_append_left _ (sl.subset z))
              (.lst upd_same r3)
            exact p2 _ F'' σ r5 ((Ext.trans x1 (x2.less fun c m => List.mem_append_right _ m)).trans x5) fun _ _ => rfl
          · exact p2.elim
        · exact p2.elim
    · exact p1.elim
where
  ixN_lt {n q : Nat} {i : Int} (h : ixN n i = some q) : q < n := by
    unfold ixN at h
    split at h
    · split at h
      · cases h; omega
      · cases h
    · split at h
      · cases h; omega
      · cases h
end
end FL
end
section
set_option Elab.async false
set_option linter.all false
set_option maxRecDepth 100000
set_option autoImplicit false
namespace FL
open PySem L2

abbrev WF (E : XK) : XW := fun c d _ H => E c d H
/-- a, b = x, y -/
def setO : List Nat → List O → Env → Env
  | i :: is, o :: os, ρ => setO is os (ρ.set i (some o))
  | _, _, ρ => ρ
def mPar (i j : Nat) (ms : Ms) : MS := fun ρ => (ms ρ).toS fun xs ρ1 => match datRs xs with
  | some [x, y] => .nx ((ρ1.set i (some (.d x))).set j (some (.d y)))
  | _ => .bad
/-- x += e -/
def mAug (f : PyData → PyData → Option PyData) (i : Nat) (m : M) : MS := mSet i (mOp f (mVar i) m)
def fAdd := fI okAll fun a b => a + b

section
variable {X : Cx} {g : Gd} {W : XW} {keep : List Nat} {σ : L2.St} {H : Hp} {D : Ends} {pos py pt : Pos} {e a b : Expr} {m : M} {st : Stmt} {x y : Str}
theorem pa0 {E : XK} : Passes CX0 X E := fun _ _ _ _ _ _ _ h => h.elim
theorem sS_setT {tg : Tg} {m : M} (hk : ∀ i ∈ tg.slots, i ∉ keep) (h : sS g W keep (mSetT tg.put m) D σ H) : tAsg (sE g W m) (gOf g.K tg) D σ H := by
  obtain ⟨ρ, F, hid, r, p⟩ := h
  refine ⟨ρ, F, hid, r, Post.toS p fun x ρ1 H1 F1 G1 v r1 x1 v1 p1 => ?_⟩
  cases e : x.datR with
  | none => simp only [e] at p1; exact p1.elim
  | some y =>
    simp only [e] at p1
    cases e2 : tg.put y ρ1 with
    | none => simp only [e2] at p1; exact p1.elim
    | some ρ2 =>
      simp only [e2] at p1
      cases x with
      | s j => cases e
      | o o =>
        have d1 : Dp g.K (off H1 (F1 ++ hid)) v y := ro_dat rfl off_more v1 (off_free r1.nd) e
        exact gOf_ok e2 d1 (rel_drop r1) hk fun σ' F' r2 sub k _ => p1 H1 F' σ' r2 ((ext_drop x1).trans (Ext.sub sub)) k
theorem sS_par {i j : Nat} {ms : Ms} (hi : i ∉ keep) (hj : j ∉ keep) (h : sS g W keep (mPar i j ms) D σ H) : tPar i j (sA g W ms) D σ H := by
  obtain ⟨ρ, F, hid, r, p⟩ := h
  refine ⟨ρ, F, hid, r, Post.toS p fun xs ρ1 H1 F1 G1 vs r1 x1 v1 p1 => ?_⟩
  cases e : datRs xs with
  | none => simp only [e] at p1; exact p1.elim
  | some ys =>
    simp only [e] at p1
    have d1 : DpAll g.K (off H1 (F1 ++ hid)) vs ys := rvs_dat v1 off_more (off_free r1.nd) e
    cases d1 with
    | nil => exact p1.elim
    | cons h1 t =>
      cases t with
      | nil => exact p1.elim
      | cons h2 t =>
        cases t with
        | cons _ _ => exact p1.elim
        | nil =>
          have r1 : Rel g H1 σ ρ1 F1 hid := rel_drop r1
          obtain ⟨F2, r2, s2⟩ := Rel.put (F1 := []) (i := i) (hid := hid) r1 (RO.d h1)
          obtain ⟨F3, r3, s3⟩ := Rel.put (F1 := []) (i := j) (hid := hid) r2 (RO.d (dp_mono (off_sub s2) h2))
          exact ⟨_, _, rfl, p1 H1 F3 _ r3 ((ext_drop x1).trans (Ext.sub fun a m => s2 a (s3 a m))) fun l ml => (keep_set hj l ml).trans (keep_set hi l ml)⟩
theorem o_ipadd : Op2 g.K (ipI fun i j => i + j) fAdd := by
  have h := o2_int0 (K := g.K) (f := fun i j => i + j)
  exact h

/-! ### statements -/
theorem fs_pass : PS X (.Pass pos) (sS g W keep mSkip) := PS.imp ps_pass fun _ _ _ h => sS_skip h
theorem fs_break : PS X (.Break pos) (sS g W keep mBreak) := PS.imp ps_break fun _ _ _ h => sS_break h
theorem fs_cont : PS X (.Continue pos) (sS g W keep mCont) := PS.imp ps_continue fun _ _ _ h => sS_cont h
theorem fs_doc {j : Nat} : PS X (.Expr (.Constant (.str x) j py) pos) (sS g W keep mSkip) := PS.imp ps_doc fun _ _ _ h => sS_skip h
theorem fs_bad : PS X st (sS g W keep mBad) := ⟨fun _ _ _ _ _ _ h => by
  obtain ⟨_, _, _, _, p⟩ := h
  exact p.elim⟩
theorem fs_retN : PS X (.Return none pos) (sS g W keep mRetN) := PS.imp ps_retN fun _ _ _ h => sS_retN h
theorem fs_ret (h : PE X e (sE g W m)) : PS X (.Return (some e) pos) (sS g W keep (mRet m)) := PS.imp (ps_ret h) fun _ _ _ q => sS_ret q
theorem fs_expr (h : PE X e (sE g W m)) (hs : swapsWith e none pos.line X.env = pure false := by rfl) : PS X (.Expr e pos) (sS g W keep (mExpr m)) := PS.imp (ps_expr h hs) fun _ _ _ q => sS_expr q
theorem fs_set (i : Nat) (hN : X.N.Nodup) (h : PE X e (sE g W m)) (hk : i ∉ keep := by decide) (hi : X.N[i]? = some x := by rfl) (hx : Loc X.env.scope x := by first | exact .inl rfl | exact .inr rfl) (hs : swapsWith e (some (.Name x py)) pos.line X.env = pure false := by rfl)
    (hf : X.fn x = true ∨ X.env.scope.names.lookup x = some .local := by first | exact .inl rfl | exact .inr rfl) : PS X (.Assign [.Name x py] e pos) (sS g W keep (mSet i m)) := PS.imp (ps_set hN hi hx h hs hf) fun _ _ _ q => sS_set hk q
theorem fs_setT {tg : Expr} {t : Tg} (h : PE X e (sE g W m)) (hg : PG X tg (gOf g.K t)) (hk : ∀ i ∈ t.slots, i ∉ keep := by decide) (hs : swapsWithSole [tg] e pos.line X.env = pure false := by rfl) (hw : swappedStores [tg] e X.env = pure none := by rfl)
    (h1 : (assignEach [tg] X.env).map (·.2) = [assign tg X.env] := by rfl) : PS X (.Assign [tg] e pos) (sS g W keep (mSetT t.put m)) := PS.imp (ps_asg h hg hs hw h1) fun _ _ _ q => sS_setT hk q
theorem fs_par {ms : Ms} {px : Pos} {kt k2 : Nat} {pt2 : Pos} (i j : Nat) (hN : X.N.Nodup) (ha : PA X [a, b] (sA g W ms)) (hc : X.calm = true := by rfl) (hi : X.N[i]? = some x := by rfl) (hj : X.N[j]? = some y := by rfl) (hij : i ≠ j := by decide)
    (hx : X.env.scope.names.lookup x = some .local := by rfl) (hy : X.env.scope.names.lookup y = some .local := by rfl)
    (hw : swappedStores [.Tuple [.Name x px, .Name y py] kt pt] (.Tuple [a, b] k2 pt2) X.env = pure (some [x, y]) := by rfl)
    (hs : swapsWithSole [.Tuple [.Name x px, .Name y py] kt pt] (.Tuple [a, b] k2 pt2) pos.line X.env = pure false := by rfl) (hki : i ∉ keep := by decide) (hkj : j ∉ keep := by decide) :
    PS X (.Assign [.Tuple [.Name x px, .Name y py] kt pt] (.Tuple [a, b] k2 pt2) pos) (sS g W keep (mPar i j ms)) := PS.imp (ps_par hc hN hi hj hij hx hy ha hw hs) fun _ _ _ q => sS_par hki hkj q
theorem fs_if {c : Expr} {s1 s2 : List Stmt} {t : Mb} {m1 m2 : MS} (h : PT X c (sT g W t)) (h1 : PSs X s1 (sS g W keep m1)) (h2 : PSs X s2 (sS g W keep m2)) : PS X (.If c s1 s2 pos) (sS g W keep (mIfS t m1 m2)) := PS.imp (ps_if h h1 h2) fun _ _ _ q => sS_if q
theorem fs_while (n : Env → Nat) {c : Expr} {s1 : List Stmt} {t : Mb} {m1 : MS} (h : PT X c (sT g W t)) (h1 : PSs X s1 (sS g W keep m1)) (hp : PassesOwn (model X.prog X.w) X.A X.env X.xe := by exact PassesOwn.never) : PS X (.While c s1 [] pos) (sS g W keep fun ρ => whileL t m1 (n ρ) ρ) := PS.imp (ps_while hp h h1) fun _ _ _ q => by
  obtain ⟨ρ, F, hid, r, p⟩ := q
  exact sS_while (n := n ρ) ⟨ρ, F, hid, r, p⟩
theorem fs_for {tg iter : Expr} {t : Tg} {body : List Stmt} {mi : Mi} {m1 : MS} (hi : PI X tg iter (sI g W mi)) (hg : PG X tg (gOf g.K t)) (h1 : PSs X body (sS g W keep m1)) (hk : ∀ i ∈ t.slots, i ∉ keep := by decide) (hc : X.calm = true := by rfl)
    (hp : PassesOwn (model X.prog X.w) X.A X.env X.xe := by exact PassesOwn.never) (hs : ∀ x, foldedSetIterable iter X.env x = pure x := by intro _; rfl) : PS X (.For tg iter body [] pos) (sS g W keep (mFor mi t m1)) := PS.imp (ps_for hp hc hi hg h1 hs) fun _ _ _ q => sS_for hk q
theorem fs_augAdd (i : Nat) (hN : X.N.Nodup) (h : PE X e (sE g W m)) (hk : i ∉ keep := by decide) (hi : X.N[i]? = some x := by rfl) (hx : Loc X.env.scope x := by first | exact .inl rfl | exact .inr rfl)
    (hf : X.fn x = true ∨ X.env.scope.names.lookup x = some .local := by first | exact .inl rfl | exact .inr rfl) : PS X (.AugAssign (.Name x py) .Add e pos) (sS g W keep (mAug fAdd i m)) := PS.imp (ps_aug hN hi hx h ip_add hf) fun D σ H q => by
  have h2 := two (ta := tVar i) (tb := sE g W m) o_ipadd (sS_set hk q)
  exact sE_var h2
theorem fs_setIx {o i v : Expr} {tpos : Pos} {j : Nat} {mv mi : M} (hv : PE X v (sE g W mv)) (ho : PE X o (tVar j)) (hi : PE X i (sE g W mi)) (hk : j ∉ keep ∨ True := by exact .inr trivial)
    (ha : ∀ w, assign (.Subscript o i tpos) X.env w = (do
      let ov ← holding [w] (eval o X.env)
      let iv ← holding [w, ov] (eval i X.env)
      standAt tpos
      holding [w, ov, iv] (setItem ov iv w)
      release [w, ov, iv] []) := by intro _; rfl)
    (hs : swapsWithSole [.Subscript o i tpos] v pos.line X.env = pure false := by rfl) (hw : swappedStores [.Subscript o i tpos] v X.env = pure none := by rfl) (h1 : (assignEach [.Subscript o i tpos] X.env).map (·.2) = [assign (.Subscript o i tpos) X.env] := by rfl) :
    PS X (.Assign [.Subscript o i tpos] v pos) (sS g W keep (mSetIx j mv mi)) := PS.imp (ps_asg hv (pg_sub ho hi set_list ha) hs hw h1) fun _ _ _ q => sS_setIx q
theorem fss_nil : PSs X [] (sS g W keep mSkip) := PSs.imp pss_nil fun _ _ _ h => sS_skip h
theorem fss_one {m : MS} (h : PS X st (sS g W keep m)) : PSs X [st] (sS g W keep m) := pss_one h
theorem fss_cons {m n : MS} {rest : List Stmt} (h : PS X st (sS g W keep m)) (h' : PSs X rest (sS g W keep n)) : PSs X (st :: rest) (sS g W keep (mSeq m n)) := PSs.imp (pss_cons h h') fun _ _ _ q => sS_seq q
theorem fss_bad {rest : List Stmt} : PSs X rest (sS g W keep mBad) := ⟨fun _ _ _ _ _ _ h => by
  obtain ⟨_, _, _, _, p⟩ := h
  exact p.elim⟩

/-! ### methods of a list that stands in a slot -/
theorem fe_append {j : Nat} {o : Expr} {apos : Pos} (ho : PE X o (tVar j)) (ha : PA X [e] (tCons (sE g W m) tNil))
    (hK : g.K = X.K := by rfl) (hbase : attributeBase o "append" X.env (eval o X.env) = eval o X.env := by rfl)
    (hfew : ((backTo pos (starEach [e] X.env)).all (fun x => !x.1) && (backToKw pos (keywordEach [] X.env)).all (fun x => x.1.isSome)
      && decide (([e] : List Expr).length + ([] : List Keyword).length + (if ([] : List Keyword).isEmpty then 0 else 1) < 30)) = true := by rfl)
    (hline : (apos.endLine == pos.line) = true := by rfl) (hs : starEach [e] X.env = (false, eval e X.env) :: starEach [] X.env := by rfl) (hplain : (backTo pos (starEach [] X.env)).any (·.1) = false := by rfl) :
    PE X (.Call (.Attribute o "append" apos) [e] [] pos) (sE g W (mAppend j m)) := by
  refine PE.imp (pe_bm PySem.F.plainAttrs_list PySem.F.slot_list_append PySem.F.type_list_append mt_append ho ha hbase hfew hline hs hplain) fun _ _ _ q => ?_
  rw [← hK]
  exact sE_append q
theorem fe_extend {j : Nat} {o : Expr} {apos : Pos} (ho : PE X o (tVar j)) (ha : PA X [e] (tCons (sE g W m) tNil))
    (hK : g.K = X.K := by rfl) (hbase : attributeBase o "extend" X.env (eval o X.env) = eval o X.env := by rfl)
    (hfew : ((backTo pos (starEach [e] X.env)).all (fun x => !x.1) && (backToKw pos (keywordEach [] X.env)).all (fun x => x.1.isSome)
      && decide (([e] : List Expr).length + ([] : List Keyword).length + (if ([] : List Keyword).isEmpty then 0 else 1) < 30)) = true := by rfl)
    (hline : (apos.endLine == pos.line) = true := by rfl) (hs : starEach [e] X.env = (false, eval e X.env) :: starEach [] X.env := by rfl) (hplain : (backTo pos (starEach [] X.env)).any (·.1) = false := by rfl) :
    PE X (.Call (.Attribute o "extend" apos) [e] [] pos) (sE g W (mExtend j m)) := by
  refine PE.imp (pe_bm PySem.F.plainAttrs_list PySem.F.slot_list_extend PySem.F.type_list_extend mt_extend ho ha hbase hfew hline hs hplain) fun _ _ _ q => ?_
  rw [← hK]
  exact sE_extend q
theorem fe_popAt {j : Nat} {o : Expr} {apos : Pos} (ho : PE X o (tVar j)) (ha : PA X [e] (tCons (sE g W m) tNil))
    (hK : g.K = X.K := by rfl) (hbase : attributeBase o "pop" X.env (eval o X.env) = eval o X.env := by rfl)
    (hfew : ((backTo pos (starEach [e] X.env)).all (fun x => !x.1) && (backToKw pos (keywordEach [] X.env)).all (fun x => x.1.isSome)
      && decide (([e] : List Expr).length + ([] : List Keyword).length + (if ([] : List Keyword).isEmpty then 0 else 1) < 30)) = true := by rfl)
    (hline : (apos.endLine == pos.line) = true := by rfl) (hs : starEach [e] X.env = (false, eval e X.env) :: starEach [] X.env := by rfl) (hplain : (backTo pos (starEach [] X.env)).any (·.1) = false := by rfl) :
    PE X (.Call (.Attribute o "pop" apos) [e] [] pos) (sE g W (mPopAt j m)) := by
  refine PE.imp (pe_bm PySem.F.plainAttrs_list PySem.F.slot_list_pop PySem.F.type_list_pop mt_popAt ho ha hbase hfew hline hs hplain) fun _ _ _ q => ?_
  rw [← hK]
  exact sE_popAt q
theorem fe_pop {j : Nat} {o : Expr} {apos : Pos} (ho : PE X o (tVar j)) (hK : g.K = X.K := by rfl) (hbase : attributeBase o "pop" X.env (eval o X.env) = eval o X.env := by rfl) (hline : (apos.endLine == pos.line) = true := by rfl) :
    PE X (.Call (.Attribute o "pop" apos) [] [] pos) (sE g W (mPop j)) := by
  refine PE.imp (pe_bm0 PySem.F.plainAttrs_list PySem.F.slot_list_pop PySem.F.type_list_pop mt_pop ho hbase hline) fun _ _ _ q => ?_
  rw [← hK]
  exact sE_pop q
theorem fa_one (h : PE X e (sE g W m)) (hs : starEach [e] X.env = (false, eval e X.env) :: starEach [] X.env := by rfl) : PA X [e] (tCons (sE g W m) tNil) := pa_cons h pa_nil hs

/-! ### calls of defs -/
theorem fe_call {E : XK} {io : List Nat} {n k : Nat} {fn : Fn} {f : Addr} {fd : FuncData} {ps : List Str} {p : Pos} {es : List Expr} {ms : Ms} (F : FnOk X.prog X.w X.K X.mg X.base CX0 k f fd ps (spF g io n fn)) (hr : Room k X.A) (hm : X.mg x = some (.ref f)) (hk : PySem.W.keepIn X.K (.ref f) = true) (hb : Binds X.K fd ps [])
    (ha : PA X (e :: es) (sA g (WF E) ms)) (hn : ∀ i ∈ io, i < n := by decide) (hg : Gl X x := by rfl) (hdb : (x == ("__debug__" : Str)) = false := by decide) (he : starEach (e :: es) X.env = (false, eval e X.env) :: starEach es X.env := by rfl) (hpl : (backTo pos (starEach es X.env)).any (·.1) = false := by rfl) :
    PE X (.Call (.Name x p) (e :: es) [] pos) (sE g (WF E) (mCall io n fn ms)) := PE.imp (pe_call (dvs := []) (E := E) F hr hg hm hk hb .nil pa0 ha hdb he hpl) fun σ H Q q => by
  have h := sE_call hn q
  show sA g (WF E) ms σ H fun vs H1 => spF g io n fn (vs ++ []) H1 Q E
  have e : (fun (vs : List V) (H1 : Hp) => spF g io n fn (vs ++ []) H1 Q E) = fun vs H1 => spF g io n fn vs H1 Q E := by
    funext vs H1
    rw [List.append_nil]
  rw [e]
  exact h
/-- THE RULE for a def -/
theorem fn_fl {P : Program} {w : World} {K : PySem.W.Frag} {mg : Str → Option Value} {base : Heap} {x qual : Str} {st : Stmt} {f : Addr} {fd : FuncData} {N ps : List Str} {k : Nat} {g : Gd} {io : List Nat} {m : MS} (F : Fun K x qual st f fd) (S : FnScope N ps (defScope st))
    (hb : ∀ (cdv : Value) (A : Around) (outer : List PySem.Env) (s : Shared) (H : Hp) (E : XK), Room k (A.deeper (PyProof.Rows.envOfC qual (defScope st) s.heap.objs.size f cdv)) → PSs (cxOf CX0 P w K mg base N qual (defScope st) f cdv A outer s H E).nox (defBody st) (sS g (WF E) io m))
    (n len : Nat) (hn : ps.length = n := by rfl) (hl : N.length = len := by rfl) (hio : ∀ j ∈ io, j < n := by decide) : FnOk P w K mg base CX0 (k + 1) f fd ps (spF g io n (fnOf io len m)) :=
  F.ok S (fun vs H Q E h => h.1.trans hn.symm) fun cdv A outer s H vs Q E hr h => ⟨_, hb cdv A outer s H E hr, sS_fn hio h N hl⟩

/-! ### comprehensions -/
theorem fe_lc {elt tg iter : Expr} {ifs : List Expr} {scope : Scope} {own : List (Str × Nat)} {t : Tg} {mi : Mi} {c : Mb} {m : M} (hN : X.N.Nodup) (hi : PI X tg iter (sI g W mi)) (ok : BlkOk X.N X.env.scope scope own)
    (hg : ∀ (s : Shared) (H : Hp) (C : Addr) (cl : List (Str × Addr)) (fp : List Addr), PG (X.blk s H scope (compEnvC scope cl C X.env) fp) tg (gOf g.K t)) (ht : ∀ (s : Shared) (H : Hp) (C : Addr) (cl : List (Str × Addr)) (fp : List Addr), PTs (X.blk s H scope (compEnvC scope cl C X.env) fp) ifs (sT g W0 c))
    (he : ∀ (s : Shared) (H : Hp) (C : Addr) (cl : List (Str × Addr)) (fp : List Addr), PE (X.blk s H scope (compEnvC scope cl C X.env) fp) elt (sE g W0 m)) (hv : ∀ i ∈ t.slots, i ∈ own.map (·.2) := by decide) (hc : X.calm = true := by rfl) (hs : ∀ x, foldedSetIterable iter X.env x = pure x := by intro _; rfl) :
    PE X (.ListComp elt [⟨tg, iter, ifs, 0⟩] scope pos) (sE g W (mLc mi t (own.map (·.2)) c m)) := PE.imp (pe_lc hc hN hi ok hg ht he hs) fun _ _ _ q => sE_lc hv q
end
end FL
end
section
set_option Elab.async false
set_option linter.all false
set_option maxRecDepth 100000
set_option maxHeartbeats 4000000
set_option autoImplicit false
namespace L2
open PySem PySem.Spec PyProof.Rows
section
variable {P : Program} {w : World} {A : Around} {E : Value → Shared → Prop} {s : Shared}
theorem set_listI {la : Addr} {elems : Array Value} (zs : List Int) {Q : Value → Shared → Prop} (hcl : A.handled = none) (hla : s.heap.IsList la elems) (hzs : IntsAre elems.toList zs) (hbd : zs.length + 1 < scanBound)
    (kk : ∀ (hq : Heap) (tq cq : Nat), SetR w hq s.heap.objs.size (fun jj => decide (jj ∈ zs)) cq → cq ≤ zs.length → (∀ ad oo, s.heap.get? ad = some oo → hq.get? ad = some oo) → Q (.ref s.heap.objs.size) { s with heap := hq, toks := tq }) :
    wpAny (model P w) A (call (.type "set") [.ref la]) Q E s := by
  have hsz : elems.size = zs.length := by
    have qq := IntsAre.length hzs
    rw [Array.length_toList] at qq
    exact qq
  obtain ⟨cq, tq0, m0⟩ := F.called_set.mro
  have m1 := F.called_set.made
  have m2 := F.called_set.sub
  refine wpAny_call (codeAny_of_tree ?_)
  show wpAny _ _ (callAny (.type "set") _) _ _ _
  refine wpAny_pure ⟨Code.quiet_builtin _ (by decide +kernel), codeAny_builtin F.entry_type_call ?_⟩
  rw [Around.under_plain (weight_type_call_type "set" [.ref la] []) rfl]
  have m3 := F.called_set.notType
  have m4 := F.called_set.canCreate
  have m5 := F.typeCall_set_1 (.ref la)
  repeat (any_goals first | wp_step | assumption)

  refine codeAny_mono (code_set_led1 (.ref la) (E := E) (Q₁ := fun ob sa => ob = .ref s.heap.objs.size ∧ sa = { s with heap := s.heap.push { cls := .type "set", dict := none, data := .set #[] 0 (.fresh 0 0 (!w.params.followText "set-order")) } }) ⟨rfl, rfl⟩) fun rr sa hrr => ?_
  cases rr with
  | error ee => exact hrr
  | ok flw =>
    cases flw with
    | ret ob =>
      obtain ⟨rfl, rfl⟩ := hrr
      have hSs : (s.heap.push { cls := .type "set", dict := none, data := .set #[] 0 (.fresh 0 0 (!w.params.followText "set-order")) }).get? s.heap.objs.size = some { cls := .type "set", dict := none, data := .set #[] 0 (.fresh 0 0 (!w.params.followText "set-order")) } := Heap.get?_push_size _ rfl
      have hTt : Shared.TypeIs { s with heap := s.heap.push { cls := .type "set", dict := none, data := .set #[] 0 (.fresh 0 0 (!w.params.followText "set-order")) } } (.ref s.heap.objs.size) "set" := ⟨_, hSs, rfl⟩
      have b0 := F.called_set.init.lookup
      have b1 := F.called_set.init.bind (.ref s.heap.objs.size)
      repeat (any_goals first | wp_step | assumption)

      refine codeAny_mono (codeAny_call_builtin (R := wants (fun rr sb => rr = .none ∧ ∃ hq tq cq, sb = { s with heap := hq, toks := tq } ∧ SetR w hq s.heap.objs.size (fun jj => decide (jj ∈ zs)) cq ∧ cq ≤ zs.length ∧
          (∀ ad oo, s.heap.get? ad = some oo → hq.get? ad = some oo)) E) F.called_set.init.plain F.entry_set_init (check_set_init_1 hTt ?_)) fun rb sb hrb => ?_
      · obtain ⟨oa, hoa, hkl, na, hda⟩ := hla
        obtain ⟨oc0, od0, oa0, os0⟩ := oa
        simp only at hkl hda
        subst hkl; subst hda
        have hob : (s.heap.push { cls := .type "set", dict := none, data := .set #[] 0 (.fresh 0 0 (!w.params.followText "set-order")) }).get? la = some { cls := .type "list", dict := od0, data := .seq elems na, slots := os0 } := Heap.get?_push_of_some _ hoa
        have n0 := F.sub_list_set
        have n1 := F.sub_list_frozenset
        have n2 : (Value.type "list" == Value.type "dict") = false := by decide
        have hl9 : (s.heap.push { cls := .type "set", dict := none, data := .set #[] 0 (.fresh 0 0 (!w.params.followText "set-order")) }).IsList la elems := ⟨_, hob, rfl, na, rfl⟩
        unfold Builtin.«set.__init__» noKeywords Builtin.Frozenset.updateFrom
        generalize hPit : pyIter = Pit
        wp_walk
        subst hPit

        refine wpAny_pyIter_list hl9 ?_
        refine wpAny_bind (wpAny_runValue ?_)
        have ltS : la < s.heap.objs.size := Heap.lt_size hoa
        have hc3 : A.in1.in1.in1.handled = none := by simp [hcl]
        have sz1 : (s.heap.push { cls := .type "set", dict := none, data := .set #[] 0 (.fresh 0 0 (!w.params.followText "set-order")) }).objs.size = s.heap.objs.size + 1 := Heap.size_push ..
        have neI : la ≠ (s.heap.push { cls := .type "set", dict := none, data := .set #[] 0 (.fresh 0 0 (!w.params.followText "set-order")) }).objs.size := by
          rw [Heap.size_push]; exact Nat.ne_of_lt (Nat.lt_succ_of_lt ltS)
        have nSf : s.heap.objs.size ∉ [(s.heap.push { cls := .type "set", dict := none, data := .set #[] 0 (.fresh 0 0 (!w.params.followText "set-order")) }).objs.size, la] := by
          rw [Heap.size_push]; simp only [List.mem_cons, List.mem_singleton, List.not_mem_nil, or_false, not_or]
          exact ⟨Nat.ne_of_lt (Nat.lt_succ_self _), Nat.ne_of_gt ltS⟩
        have hvl : ∀ (ix : Nat) (vv : Value), elems[ix]? = some vv → ∃ kz tt, zs[ix]? = some kz ∧ vv = .int kz tt := fun ix vv hvv => by
          have hix : ix < zs.length := by rw [← hsz]; exact (Array.getElem?_eq_some_iff.mp hvv).1
          obtain ⟨tt, ee⟩ := PyProof.Rows.IntsAre.int_at hzs ix vv (by rw [Array.getElem?_toList]; exact hvv)
          refine ⟨zs[ix], tt, List.getElem?_eq_getElem hix, ?_⟩
          rw [ee, List.getD_eq_getElem?_getD, List.getElem?_eq_getElem hix] <;> rfl
        refine set_update_ints ((Walks.list hc3 _ la neI elems).toS) s.heap.objs.size
          nSf zs hsz hbd hvl (elems.size - 0) 0 _ (by omega) (Nat.zero_le _)
          ⟨⟨_, Heap.get?_push_size _ rfl, rfl, rfl⟩, (hl9.push _)⟩ ?hS0 ?hR
        case hS0 =>
          have gt : ((s.heap.push { cls := .type "set", dict := none, data := .set #[] 0 (.fresh 0 0 (!w.params.followText "set-order")) }).push { cls := .type "list_iterator", data := .fields #[.ref la, .int 0 0] }).get? s.heap.objs.size
              = some { cls := .type "set", dict := none, data := .set #[] 0 (.fresh 0 0 (!w.params.followText "set-order")) } := Heap.get?_push_of_some _ hSs
          exact ⟨0, Nat.le_refl 0, setR_new_at gt⟩
        case hR =>
          intro sc cc hmv hcc hsc
          obtain ⟨hq, ga, da, ta, osa⟩ := sc
          have ea : ga = s.gens := hmv.gens
          have eb : da = s.drawn := hmv.drawn
          have ec : osa = s.os := hmv.os
          subst ea; subst eb; subst ec
          show wpAny _ _ _ _ _ _
          refine wpAny_pure ?_
          show wpAny _ _ (ret Value.none) _ _ _
          rw [hsz] at hcc
          refine wpAny_pure ⟨rfl, hq, ta, cc, rfl, hsc, hcc, fun ad oo ee => ?_⟩
          have p0 : ad < s.heap.objs.size := Heap.lt_size ee
          have p1 : ad ≠ s.heap.objs.size := Nat.ne_of_lt p0
          have p2 : ad ≠ (s.heap.push { cls := .type "set", dict := none, data := .set #[] 0 (.fresh 0 0 (!w.params.followText "set-order")) }).objs.size := by
            rw [Heap.size_push]; exact Nat.ne_of_lt (Nat.lt_succ_of_lt p0)
          exact hmv.heap ad oo (by simp only [List.mem_cons, List.mem_singleton, List.not_mem_nil, or_false, not_or]; exact ⟨p1, p2⟩) (Heap.get?_push_of_some _ (Heap.get?_push_of_some _ ee))

      · cases rb with
        | error ee => exact hrb
        | ok flb =>
          cases flb with
          | ret rr =>
            obtain ⟨rfl, hq, tq, cc, rfl, hsc, hcc, hkk⟩ := hrb
            repeat (any_goals first | wp_step | assumption)
            exact kk _ _ _ hsc hcc hkk
          | _ => exact hrb.elim
    | _ => exact hrr.elim

end
end L2
end
section
set_option Elab.async false
set_option linter.all false
set_option maxRecDepth 100000
set_option autoImplicit false
namespace FL
open PySem L2

/-! ### len, int, abs, tuple, list, any, all, sum -/
def intsOf : List PyData → Option (List Int)
  | [] => some []
  | .int i :: r => match intsOf r with | some is => some (i :: is) | none => none
  | _ :: _ => none
def boolsOf : List PyData → Option (List Bool)
  | [] => some []
  | .bool i :: r => match boolsOf r with | some is => some (i :: is) | none => none
  | _ :: _ => none
def ofInts (ns : List Int) : List PyData := ns.map .int
def fLen : List PyData → Option PyData
  | [.list xs] => some (.int xs.length)
  | [.tuple xs] => some (.int xs.length)
  | _ => none
def fInt : List PyData → Option PyData
  | [.int i] => some (.int i)
  | [.bool b] => some (.int (if b then 1 else 0))
  | _ => none
def fAbs : List PyData → Option PyData
  | [.int i] => some (.int (if i < 0 then -i else i))
  | _ => none
def fTuple : List PyData → Option PyData
  | [.list xs] => some (.tuple xs)
  | [.tuple xs] => some (.tuple xs)
  | _ => none
def lList : List PyData → Option (List PyData)
  | [.list xs] => some xs
  | [.tuple xs] => some xs
  | _ => none
def fAny : List PyData → Option PyData
  | [.list xs] => match boolsOf xs with | some bs => some (.bool (bs.any id)) | none => none
  | _ => none
def fAll : List PyData → Option PyData
  | [.list xs] => match boolsOf xs with | some bs => some (.bool (bs.all id)) | none => none
  | _ => none
def fSum : List PyData → Option PyData
  | [.list xs] => match intsOf xs with | some bs => some (.int bs.sum) | none => none
  | _ => none
/-- ints in order -/
def insI (x : Int) : List Int → List Int
  | [] => [x]
  | y :: ys => if x ≤ y then x :: y :: ys else y :: insI x ys
def sortI : List Int → List Int
  | [] => []
  | x :: xs => insI x (sortI xs)
/-- ints in order, each once -/
def insU (x : Int) : List Int → List Int
  | [] => [x]
  | y :: ys => if x < y then x :: y :: ys else if x = y then y :: ys else y :: insU x ys
def sortU : List Int → List Int
  | [] => []
  | x :: xs => insU x (sortU xs)
def lSortI : List PyData → Option (List PyData)
  | [.list xs] => match intsOf xs with | some ns => some (ofInts (sortI ns)) | none => none
  | _ => none
/-- a type's name that a value has -/
def tyD : PyData → String
  | .none => "NoneType"
  | .bool _ => "bool"
  | .int _ => "int"
  | .str _ => "str"
  | .list _ => "list"
  | .tuple _ => "tuple"
  | .dict _ => "dict"
def isD (x : PyData) (T : String) : Option Bool := match x, T with
  | .none, _ => some false
  | .bool _, "bool" => some true
  | .bool _, "int" => some true
  | .bool _, _ => some false
  | .int _, "int" => some true
  | .int _, _ => some false
  | .str _, "str" => some true
  | .str _, _ => some false
  | .list _, "list" => some true
  | .list _, _ => some false
  | .tuple _, "tuple" => some true
  | .tuple _, _ => some false
  | .dict _, _ => none

theorem intsOf_dp {K : PySem.W.Frag} {H : Hp} : ∀ {vs : List V} {xs : List PyData} {ns : List Int}, DpAll K H vs xs → intsOf xs = some ns → vs = ns.map V.int ∧ xs = ofInts ns
  | _, _, _, .nil, e => by cases e; exact ⟨rfl, rfl⟩
  | _, _, _, .cons h r, e => by
    cases h with
    | int i =>
      unfold intsOf at e
      split at e
      · rename_i is ei
        cases e
        obtain ⟨e1, e2⟩ := intsOf_dp r ei
        exact ⟨by rw [e1]; rfl, by rw [e2]; rfl⟩
      · cases e
    | _ => cases e
theorem boolsOf_dp {K : PySem.W.Frag} {H : Hp} : ∀ {vs : List V} {xs : List PyData} {ns : List Bool}, DpAll K H vs xs → boolsOf xs = some ns → vs = ns.map V.bl
  | _, _, _, .nil, e => by cases e; rfl
  | _, _, _, .cons h r, e => by
    cases h with
    | bl i =>
      unfold boolsOf at e
      split at e
      · rename_i is ei
        cases e
        rw [boolsOf_dp r ei]
        rfl
      · cases e
    | _ => cases e
theorem dp_ofInts {K : PySem.W.Frag} {H : Hp} : ∀ (ns : List Int), DpAll K H (ns.map V.int) (ofInts ns)
  | [] => .nil
  | n :: ns => .cons (.int n) (dp_ofInts ns)
section
variable {K : PySem.W.Frag}
theorem VWs.one {H Ho : Hp} {vs : List V} {x : PyData} (h : VWs K H Ho vs [x]) : ∃ v, vs = [v] ∧ VW K H Ho v x := by
  cases h with
  | cons h t =>
    cases t
    exact ⟨_, rfl, h⟩
theorem n_len : OpN K (fun xs H Q => ∃ p ys, xs = [.ref p] ∧ (SqL K H p ys ∨ SqT K H p ys) ∧ Q (.int ys.length) H) fLen := by
  intro vs H Ho Q xs z hs h e en
  unfold fLen at e
  split at e
  · cases e
    obtain ⟨v, rfl, h0⟩ := h.one
    obtain ⟨a, us, rfl, h1, h2⟩ := VW.list h0 hs
    refine ⟨a, us, rfl, .inl h1, ?_⟩
    rw [DpAll.length h2]
    exact en.1 _ (.int _)
  · cases e
    obtain ⟨v, rfl, h0⟩ := h.one
    obtain ⟨a, us, rfl, h1, _, h2⟩ := VW.tup h0 hs
    refine ⟨a, us, rfl, .inr h1, ?_⟩
    rw [DpAll.length h2]
    exact en.1 _ (.int _)
  · cases e
theorem n_int : OpN K (fun xs H Q => (∃ i, xs = [.int i] ∧ Q (.int i) H) ∨ ∃ k, xs = [.bl k] ∧ Q (.int (if k then 1 else 0)) H) fInt := by
  intro vs H Ho Q xs z hs h e en
  unfold fInt at e
  split at e
  · cases e
    obtain ⟨v, rfl, h0⟩ := h.one
    obtain rfl := VW.int h0
    exact .inl ⟨_, rfl, en.1 _ (.int _)⟩
  · cases e
    obtain ⟨v, rfl, h0⟩ := h.one
    obtain rfl := VW.bl h0
    exact .inr ⟨_, rfl, en.1 _ (.int _)⟩
  · cases e
theorem n_abs : OpN K (fun xs H Q => ∃ i, xs = [.int i] ∧ Q (.int (if i < 0 then -i else i)) H) fAbs := by
  intro vs H Ho Q xs z hs h e en
  unfold fAbs at e
  split at e
  · cases e
    obtain ⟨v, rfl, h0⟩ := h.one
    obtain rfl := VW.int h0
    exact ⟨_, rfl, en.1 _ (.int _)⟩
  · cases e
theorem n_tuple : OpN K (fun xs H Q => ∃ p ys, xs = [.ref p] ∧ ((SqL K H p ys ∧ ∀ l, H l = none → Q (.ref l) (upd H l (.tup ys))) ∨ (SqT K H p ys ∧ Q (.ref p) H))) fTuple := by
  intro vs H Ho Q xs z hs h e en
  unfold fTuple at e
  split at e
  · cases e
    obtain ⟨v, rfl, h0⟩ := h.one
    obtain ⟨a, us, rfl, h1, h2⟩ := VW.list h0 hs
    exact ⟨a, us, rfl, .inl ⟨h1, en.tup h2 hs⟩⟩
  · cases e
    obtain ⟨v, rfl, h0⟩ := h.one
    obtain ⟨a, us, rfl, h1, h1', h2⟩ := VW.tup h0 hs
    exact ⟨a, us, rfl, .inr ⟨h1, en.1 _ (.tup h1' h2)⟩⟩
  · cases e
theorem l_list : OpL K (fun xs H Q => ∃ p ys, xs = [.ref p] ∧ (SqL K H p ys ∨ SqT K H p ys) ∧ ∀ l, H l = none → Q (.ref l) (upd H l (.lst ys))) lList := by
  intro vs H Ho Q xs zs hs h e en
  unfold lList at e
  split at e
  · cases e
    obtain ⟨v, rfl, h0⟩ := h.one
    obtain ⟨a, us, rfl, h1, h2⟩ := VW.list h0 hs
    exact ⟨a, us, rfl, .inl h1, fun p hp => en us p hp h2⟩
  · cases e
    obtain ⟨v, rfl, h0⟩ := h.one
    obtain ⟨a, us, rfl, h1, _, h2⟩ := VW.tup h0 hs
    exact ⟨a, us, rfl, .inr h1, fun p hp => en us p hp h2⟩
  · cases e
theorem n_any : OpN K (rAny K) fAny := by
  intro vs H Ho Q xs z hs h e en
  unfold fAny at e
  split at e
  · split at e
    · rename_i bs eb
      cases e
      obtain ⟨v, rfl, h0⟩ := h.one
      obtain ⟨a, us, rfl, h1, h2⟩ := VW.list h0 hs
      obtain rfl := boolsOf_dp h2 eb
      exact ⟨a, bs, rfl, h1, en.1 _ (.bl _)⟩
    · cases e
  · cases e
theorem n_all : OpN K (rAll K) fAll := by
  intro vs H Ho Q xs z hs h e en
  unfold fAll at e
  split at e
  · split at e
    · rename_i bs eb
      cases e
      obtain ⟨v, rfl, h0⟩ := h.one
      obtain ⟨a, us, rfl, h1, h2⟩ := VW.list h0 hs
      obtain rfl := boolsOf_dp h2 eb
      exact ⟨a, bs, rfl, h1, en.1 _ (.bl _)⟩
    · cases e
  · cases e
theorem n_sum : OpN K (rSum K) fSum := by
  intro vs H Ho Q xs z hs h e en
  unfold fSum at e
  split at e
  · split at e
    · rename_i bs eb
      cases e
      obtain ⟨v, rfl, h0⟩ := h.one
      obtain ⟨a, us, rfl, h1, h2⟩ := VW.list h0 hs
      obtain ⟨rfl, _⟩ := intsOf_dp h2 eb
      exact ⟨a, bs, rfl, h1, en.1 _ (.int _)⟩
    · cases e
  · cases e
end

/-! ### sorted -/
theorem insI_perm (x : Int) : ∀ ys : List Int, (insI x ys).Perm (x :: ys)
  | [] => .refl _
  | y :: ys => by
    unfold insI
    split
    · exact .refl _
    · exact ((insI_perm x ys).cons y).trans (.swap x y ys)
theorem sortI_perm : ∀ xs : List Int, (sortI xs).Perm xs
  | [] => .refl _
  | x :: xs => (insI_perm x (sortI xs)).trans ((sortI_perm xs).cons x)
theorem insI_sorted (x : Int) : ∀ {ys : List Int}, ys.Pairwise (· ≤ ·) → (insI x ys).Pairwise (· ≤ ·)
  | [], _ => List.pairwise_singleton _ _
  | y :: ys, h => by
    obtain ⟨h1, h2⟩ := List.pairwise_cons.mp h
    unfold insI
    split
    · rename_i hx
      refine List.pairwise_cons.mpr ⟨fun z m => ?_, h⟩
      rcases List.mem_cons.mp m with m | m
      · rw [m]; exact hx
      · exact Int.le_trans hx (h1 z m)
    · rename_i hx
      refine List.pairwise_cons.mpr ⟨fun z m => ?_, insI_sorted x h2⟩
      rcases List.mem_cons.mp ((insI_perm x ys).mem_iff.mp m) with m | m
      · rw [m]; omega
      · exact h1 z m
theorem sortI_sorted : ∀ xs : List Int, (sortI xs).Pairwise (· ≤ ·)
  | [] => .nil
  | x :: xs => insI_sorted x (sortI_sorted xs)
theorem le_perm_eq : ∀ {xs ys : List Int}, xs.Perm ys → xs.Pairwise (· ≤ ·) → ys.Pairwise (· ≤ ·) → xs = ys := fun h h1 h2 =>
  List.Perm.eq_of_pairwise (le := (· ≤ ·)) (fun a b _ _ p q => Int.le_antisymm p q) h1 h2 h
theorem l_sortI {K : PySem.W.Frag} : OpL K (rSortedI K) lSortI := by
  intro vs H Ho Q xs zs hs h e en
  unfold lSortI at e
  split at e
  · split at e
    · rename_i ns eb
      cases e
      obtain ⟨v, rfl, h0⟩ := h.one
      obtain ⟨a, us, rfl, h1, h2⟩ := VW.list h0 hs
      obtain ⟨rfl, _⟩ := intsOf_dp h2 eb
      refine ⟨a, ns, rfl, h1, fun ns' p hp hst hn => ?_⟩
      obtain rfl := le_perm_eq (hp.trans (sortI_perm ns).symm) hst (sortI_sorted ns)
      exact en _ p hn (dp_ofInts _)
    · cases e
  · cases e
theorem insU_mem (x y : Int) : ∀ ys : List Int, y ∈ insU x ys ↔ y = x ∨ y ∈ ys
  | [] => by simp [insU]
  | z :: ys => by
    unfold insU
    split
    · simp
    · split
      · rename_i e
        subst e
        simp
      · simp only [List.mem_cons, insU_mem x y ys]
        constructor
        · rintro (h | h | h)
          · exact .inr (.inl h)
          · exact .inl h
          · exact .inr (.inr h)
        · rintro (h | h | h)
          · exact .inr (.inl h)
          · exact .inl h
          · exact .inr (.inr h)
theorem sortU_mem (y : Int) : ∀ xs : List Int, y ∈ sortU xs ↔ y ∈ xs
  | [] => by simp [sortU]
  | x :: xs => by unfold sortU; rw [insU_mem, sortU_mem y xs, List.mem_cons]
theorem insU_sorted (x : Int) : ∀ {ys : List Int}, ys.Pairwise (· < ·) → (insU x ys).Pairwise (· < ·)
  | [], _ => List.pairwise_singleton _ _
  | y :: ys, h => by
    obtain ⟨h1, h2⟩ := List.pairwise_cons.mp h
    unfold insU
    split
    · rename_i hx
      refine List.pairwise_cons.mpr ⟨fun z m => ?_, h⟩
      rcases List.mem_cons.mp m with m | m
      · rw [m]; exact hx
      · exact Int.lt_trans hx (h1 z m)
    · split
      · exact h
      · refine List.pairwise_cons.mpr ⟨fun z m => ?_, insU_sorted x h2⟩
        rcases (insU_mem x z ys).mp m with m | m
        · rw [m]; omega
        · exact h1 z m
theorem sortU_sorted : ∀ xs : List Int, (sortU xs).Pairwise (· < ·)
  | [] => .nil
  | x :: xs => insU_sorted x (sortU_sorted xs)
theorem lt_mem_eq : ∀ {xs ys : List Int}, xs.Pairwise (· < ·) → ys.Pairwise (· < ·) → (∀ k, k ∈ xs ↔ k ∈ ys) → xs = ys
  | [], [], _, _, _ => rfl
  | [], y :: ys, _, _, h => absurd ((h y).mpr List.mem_cons_self) (by simp)
  | x :: xs, [], _, _, h => absurd ((h x).mp List.mem_cons_self) (by simp)
  | x :: xs, y :: ys, h1, h2, h => by
    obtain ⟨a1, a2⟩ := List.pairwise_cons.mp h1
    obtain ⟨b1, b2⟩ := List.pairwise_cons.mp h2
    have e : x = y := by
      rcases List.mem_cons.mp ((h x).mp List.mem_cons_self) with q | q
      · exact q
      · rcases List.mem_cons.mp ((h y).mpr List.mem_cons_self) with p | p
        · exact p.symm
        · have := a1 y p
          have := b1 x q
          omega
    subst e
    rw [lt_mem_eq a2 b2 fun k => ?_]
    constructor
    · intro m
      rcases List.mem_cons.mp ((h k).mp (List.mem_cons_of_mem _ m)) with q | q
      · have := a1 k m
        omega
      · exact q
    · intro m
      rcases List.mem_cons.mp ((h k).mpr (List.mem_cons_of_mem _ m)) with q | q
      · have := b1 k m
        omega
      · exact q
/-- sorted(set(xs)): ints -/
def lSortU : List PyData → Option (List PyData)
  | [.list xs] => match intsOf xs with | some ns => if decide (ns.length < 4000) = true then (if decide ((sortU ns).length < 64) = true then some (ofInts (sortU ns)) else none) else none | none => none
  | [.tuple xs] => match intsOf xs with | some ns => if decide (ns.length < 4000) = true then (if decide ((sortU ns).length < 64) = true then some (ofInts (sortU ns)) else none) else none | none => none
  | _ => none
def rSortU (K : PySem.W.Frag) : List V → Hp → VK → Prop := fun vs H Q => ∃ (a : Addr) (ns : List Int), vs = [V.ref a] ∧ (SqL K H a (ns.map V.int) ∨ SqT K H a (ns.map V.int)) ∧ ns.length < 4000 ∧ (sortU ns).length < 64 ∧ ∀ p, H p = none → Q (.ref p) (upd H p (.lst ((sortU ns).map V.int)))
theorem l_sortU {K : PySem.W.Frag} : OpL K (rSortU K) lSortU := by
  intro vs H Ho Q xs zs hs h e en
  unfold lSortU at e
  split at e
  · split at e
    · rename_i ns eb
      split at e
      · rename_i hd
        split at e
        · rename_i hd2
          cases e
          obtain ⟨v, rfl, h0⟩ := h.one
          obtain ⟨a, us, rfl, h1, h2⟩ := VW.list h0 hs
          obtain ⟨rfl, _⟩ := intsOf_dp h2 eb
          exact ⟨a, ns, rfl, .inl h1, of_decide_eq_true hd, of_decide_eq_true hd2, fun p hn => en _ p hn (dp_ofInts _)⟩
        · cases e
      · cases e
    · cases e
  · split at e
    · rename_i ns eb
      split at e
      · rename_i hd
        split at e
        · rename_i hd2
          cases e
          obtain ⟨v, rfl, h0⟩ := h.one
          obtain ⟨a, us, rfl, h1, _, h2⟩ := VW.tup h0 hs
          obtain ⟨rfl, _⟩ := intsOf_dp h2 eb
          exact ⟨a, ns, rfl, .inr h1, of_decide_eq_true hd, of_decide_eq_true hd2, fun p hn => en _ p hn (dp_ofInts _)⟩
        · cases e
      · cases e
    · cases e
  · cases e
end FL
end
section
set_option Elab.async false
set_option linter.all false
set_option maxRecDepth 100000
set_option autoImplicit false
namespace FL
open PySem PySem.Spec PyProof.Rows L2

theorem setR_card {w : World} {h : Heap} {a : Addr} {zs : List Int} {c : Nat} (R : SetR w h a (fun j => decide (j ∈ zs)) c) : c = (sortU zs).length := by
  obtain ⟨o, es, ep, t, _, _, _, _, nd, hm, _, _, hn, _⟩ := R
  have p : (es.toList.map keyOf).Perm (sortU zs) := (List.perm_ext_iff_of_nodup nd ((sortU_sorted zs).imp (fun h => by omega))).mpr fun k => by
    rw [sortU_mem, ← hm k]
    simp
  rw [← p.length_eq, List.length_map, Array.length_toList, hn]
section
variable {X : Cx} {g : Gd} {W : XW} {σ : L2.St} {H : Hp} {pos py pt p q : Pos} {e a b : Expr} {m : M} {x y : Str}
theorem pe_sortU {ta : TA} (hc : X.calm = true) (hg : Gl X "sorted") (hm : X.mg "sorted" = none) (hg2 : Gl X "set") (hm2 : X.mg "set" = none) (ha : PA X [a] ta) (na : starEach [a] X.env = (false, eval a X.env) :: starEach [] X.env := by rfl) :
    PE X (.Call (.Name "sorted" p) [.Call (.Name "set" pt) [a] [] q] [] pos) (tCB (rSortU X.K) ta) := by
  refine ⟨fun pins s σ H Q I h => ?_⟩
  refine Call_ (ld_blt I hg hm PyProof.Rows.boot_sorted ?_)
  refine PyProof.Rows.callWith_builtin1 (PyProof.Rows.args_cons ?_ rfl) rfl rfl
  refine Call_ (ld_blt I hg2 hm2 PyProof.Rows.boot_set ?_)
  refine PyProof.Rows.callWith_type1 (thn (ha.run q pins s σ H _ I h) fun us s1 ⟨vs, H1, I1, r1, q1⟩ => ?_) na rfl
  obtain ⟨l, ns, rfl, hq, hl, h64, q1⟩ := q1
  obtain rfl := Vals.ref1 r1
  have fin2 : ∀ (s2 : Shared) (d : Addr) (c : Nat), Inv X pins σ H1 s2 → SetR X.w s2.heap d (fun j => decide (j ∈ ns)) c → wpAny (model X.prog X.w) X.A (call (.builtin "sorted") [Value.ref d]) (EP X pins σ Q) X.xe s2 := fun s2 d c I2 R => by
    have ec := setR_card R
    refine sorted_set R (I2.ok.hd hc) (by omega) fun s' p out cc ms k g o hp hgt hi hs hm hln => ?_
    have em : ms = sortU ns := lt_mem_eq hs (sortU_sorted ns) fun z => by rw [hm z, sortU_mem]; simp
    have hlen : (ms.map V.int).length ≤ sizeLine := by rw [List.length_map, hln, sizeLine_eq]; omega
    have hn : H1 p = none := I2.hok.fresh hp
    have J : Inv X pins σ (upd H1 p (.lst (ms.map V.int))) { s2 with heap := s'.heap, gens := s'.gens, drawn := s'.drawn, toks := s'.toks } :=
      I2.call (ch := []) (Un.laid k hp hn) (I2.hok.laid k hp ⟨hlen, out.toList, cc, vals_of_ints hi, hgt⟩) (by rw [g]; exact I2.bare) (fun _ z => nomatch z)
    have e : s' = { s2 with heap := s'.heap, gens := s'.gens, drawn := s'.drawn, toks := s'.toks } := by
      cases s'
      cases s2
      cases o
      rfl
    rw [e]
    exact ⟨.ref p, _, J, rfl, by rw [em]; exact q1 p hn⟩
  have fin : ∀ (h' : Heap) (tk c : Nat), SetR X.w h' s1.heap.objs.size (fun j => decide (j ∈ ns)) c → (∀ b o, s1.heap.get? b = some o → h'.get? b = some o) →
      wpAny (model X.prog X.w) X.A (spliced (backTo pos (starEach [] X.env))) (fun vs s₂ => wpAny (model X.prog X.w) X.A (call (.builtin "sorted") (Value.ref s1.heap.objs.size :: vs)) (EP X pins σ Q) X.xe s₂) X.xe { s1 with heap := h', toks := tk } := fun h' tk c R k0 =>
    PyProof.Rows.args_nil (fin2 _ _ c (I1.kept fun b o e => k0 b o e) R)
  rcases hq with hq | hq
  · obtain ⟨its, r, pl, hz⟩ := I1.list hq
    exact set_listI ns (I1.ok.hd hc) pl.isList (by simpa using r.ints) (by unfold scanBound; omega) fun h' tk c R _ k => fin h' tk c R k
  · obtain ⟨its, r, pl, hz⟩ := I1.tuple hq
    exact call_set_tupI ns (I1.ok.hd hc) pl (by simpa using r.ints) (by unfold scanBound; omega) fun h' tk c R _ k => fin h' tk c R k
theorem fe_sortU {ms : Ms} (hm : X.mg "sorted" = none) (hm2 : X.mg "set" = none) (ha : PA X [a] (sA g W ms)) (hK : g.K = X.K := by rfl) (hc : X.calm = true := by rfl) (hg : Gl X "sorted" := by rfl) (hg2 : Gl X "set" := by rfl) (na : starEach [a] X.env = (false, eval a X.env) :: starEach [] X.env := by rfl) :
    PE X (.Call (.Name "sorted" p) [.Call (.Name "set" pt) [a] [] q] [] pos) (sE g W (mCallL lSortU ms)) := PE.imp (pe_sortU hc hg hm hg2 hm2 ha na) fun _ _ _ h => by
  rw [← hK]
  exact callL l_sortU h
/-! ### the built-ins by name -/
theorem fe_len {ms : Ms} (hm : X.mg "len" = none) (ha : PA X [a] (sA g W ms)) (hK : g.K = X.K := by rfl) (hg : Gl X "len" := by rfl) (hs : starEach [a] X.env = (false, eval a X.env) :: starEach [] X.env := by rfl) (hpl : (backTo pos (starEach [] X.env)).any (·.1) = false := by rfl) :
    PE X (.Call (.Name "len" p) [a] [] pos) (sE g W (mCallB fLen ms)) := fe_callB call_len_seq (by rw [hK]; exact n_len) hg hm PySem.boot_len ha (by decide) (by decide) hs hpl
theorem fe_absB {ms : Ms} (hm : X.mg "abs" = none) (ha : PA X [a] (sA g W ms)) (hK : g.K = X.K := by rfl) (hg : Gl X "abs" := by rfl) (hs : starEach [a] X.env = (false, eval a X.env) :: starEach [] X.env := by rfl) (hpl : (backTo pos (starEach [] X.env)).any (·.1) = false := by rfl) :
    PE X (.Call (.Name "abs" p) [a] [] pos) (sE g W (mCallB fAbs ms)) := fe_callB call_abs n_abs hg hm PyProof.Rows.boot_abs ha (by decide) (by decide) hs hpl
theorem fe_any {ms : Ms} (hm : X.mg "any" = none) (ha : PA X [a] (sA g W ms)) (hc : X.calm = true := by rfl) (hK : g.K = X.K := by rfl) (hg : Gl X "any" := by rfl) (hs : starEach [a] X.env = (false, eval a X.env) :: starEach [] X.env := by rfl) (hpl : (backTo pos (starEach [] X.env)).any (·.1) = false := by rfl) :
    PE X (.Call (.Name "any" p) [a] [] pos) (sE g W (mCallB fAny ms)) := fe_callB (cr_any hc) (by rw [hK]; exact n_any) hg hm PyProof.Rows.boot_any ha (by decide) (by decide) hs hpl
theorem fe_all {ms : Ms} (hm : X.mg "all" = none) (ha : PA X [a] (sA g W ms)) (hc : X.calm = true := by rfl) (hK : g.K = X.K := by rfl) (hg : Gl X "all" := by rfl) (hs : starEach [a] X.env = (false, eval a X.env) :: starEach [] X.env := by rfl) (hpl : (backTo pos (starEach [] X.env)).any (·.1) = false := by rfl) :
    PE X (.Call (.Name "all" p) [a] [] pos) (sE g W (mCallB fAll ms)) := fe_callB (cr_all hc) (by rw [hK]; exact n_all) hg hm PyProof.Rows.boot_all ha (by decide) (by decide) hs hpl
theorem fe_sum {ms : Ms} (hm : X.mg "sum" = none) (ha : PA X [a] (sA g W ms)) (hc : X.calm = true := by rfl) (hK : g.K = X.K := by rfl) (hg : Gl X "sum" := by rfl) (hs : starEach [a] X.env = (false, eval a X.env) :: starEach [] X.env := by rfl) (hpl : (backTo pos (starEach [] X.env)).any (·.1) = false := by rfl) :
    PE X (.Call (.Name "sum" p) [a] [] pos) (sE g W (mCallB fSum ms)) := fe_callB (cr_sum hc) (by rw [hK]; exact n_sum) hg hm PyProof.Rows.boot_sum ha (by decide) (by decide) hs hpl
theorem fe_intT {ms : Ms} (hm : X.mg "int" = none) (ha : PA X [a] (sA g W ms)) (hg : Gl X "int" := by rfl) (hs : starEach [a] X.env = (false, eval a X.env) :: starEach [] X.env := by rfl) (hpl : (backTo pos (starEach [] X.env)).any (·.1) = false := by rfl) :
    PE X (.Call (.Name "int" p) [a] [] pos) (sE g W (mCallB fInt ms)) := fe_callTy call_int1 n_int hg hm PyProof.Rows.boot_int ha (by decide) (by decide) hs hpl
theorem fe_tuple {ms : Ms} (hm : X.mg "tuple" = none) (ha : PA X [a] (sA g W ms)) (hK : g.K = X.K := by rfl) (hg : Gl X "tuple" := by rfl) (hs : starEach [a] X.env = (false, eval a X.env) :: starEach [] X.env := by rfl) (hpl : (backTo pos (starEach [] X.env)).any (·.1) = false := by rfl) :
    PE X (.Call (.Name "tuple" p) [a] [] pos) (sE g W (mCallB fTuple ms)) := fe_callTy call_tuple_of (by rw [hK]; exact n_tuple) hg hm PyProof.Rows.boot_tuple ha (by decide) (by decide) hs hpl
theorem fe_list {ms : Ms} (hm : X.mg "list" = none) (ha : PA X [a] (sA g W ms)) (hK : g.K = X.K := by rfl) (hg : Gl X "list" := by rfl) (hs : starEach [a] X.env = (false, eval a X.env) :: starEach [] X.env := by rfl) (hpl : (backTo pos (starEach [] X.env)).any (·.1) = false := by rfl) :
    PE X (.Call (.Name "list" p) [a] [] pos) (sE g W (mCallL lList ms)) := fe_callTyL call_list_of (by rw [hK]; exact l_list) hg hm PyProof.Rows.boot_list ha (by decide) (by decide) hs hpl
theorem fe_sortI {ms : Ms} (hm : X.mg "sorted" = none) (ha : PA X [a] (sA g W ms)) (hK : g.K = X.K := by rfl) (hg : Gl X "sorted" := by rfl) (hs : starEach [a] X.env = (false, eval a X.env) :: starEach [] X.env := by rfl) (hpl : (backTo pos (starEach [] X.env)).any (·.1) = false := by rfl) :
    PE X (.Call (.Name "sorted" p) [a] [] pos) (sE g W (mCallL lSortI ms)) := fe_callBL cr_sortedI (by rw [hK]; exact l_sortI) hg hm PyProof.Rows.boot_sorted ha (by decide) (by decide) hs hpl

end
end FL
end
section
set_option Elab.async false
set_option linter.all false
set_option maxRecDepth 100000
set_option autoImplicit false
namespace FL
open PySem PySem.Spec PyProof.Rows L2

/-! ### taken out of a slot; given up for good -/
def mTake (i : Nat) : M := fun ρ => match ρ[i]? with
  | some (some o) => .ok (.o o) (ρ.set i none)
  | _ => .bad
def mFz (i : Nat) : M := fun ρ => match ρ[i]? with
  | some (some o) => (match o.dat with
    | some x => .ok (.o (.d x)) (ρ.set i (some (.d x)))
    | none => .bad)
  | _ => .bad
/-- both are lists: a new one -/
def mCat (ma mb : M) : M := fun ρ => (ma ρ).bind fun x ρ1 => (mb ρ1).bind fun y ρ2 => match x.view ρ2, y.view ρ2 with
  | some (.list xs), some (.list ys) => if decide (xs.length + ys.length ≤ 16777216) = true then .ok (.o (.lst ((xs ++ ys).map .d))) ρ2 else .bad
  | _, _ => .bad
section
variable {X : Cx} {g : Gd} {W : XW} {σ σ' : L2.St} {ρ ρ' : Env} {H H0 H' Ho Ho' : Hp} {F F0 G hid F1 S S' : List Addr} {pos py pt p q : Pos} {e a b : Expr} {m : M} {x y : Str}
theorem sE_take {i : Nat} {Q : VK} (h : sE g W (mTake i) σ H Q) : tVar i σ H Q := by
  obtain ⟨ρ, F, hid, r, p⟩ := h
  unfold mTake at p
  split at p
  · rename_i o ho
    obtain ⟨v, F1, G, e1, pm, ro, re⟩ := renv_none r.env ho
    have pp : (F ++ hid).Perm (G ++ (F1 ++ hid)) := by
      rw [← List.append_assoc]
      exact List.Perm.append_right hid (pm.trans List.perm_append_comm)
    have r2 : Rel g H σ (ρ.set i none) G (F1 ++ hid) := Rel.congrF (S := F ++ hid) re r.nd r.tr pp
    refine ⟨v, e1, p H G F1 v r2 (Ext.sub fun a m => pp.mem_iff.mpr m) ?_⟩
    rw [← off_congr (S := F ++ hid) fun a => pp.mem_iff]
    exact ro
  · exact p.elim
theorem sE_fz {i : Nat} {Q : VK} (h : sE g W (mFz i) σ H Q) : tVar i σ H Q := by
  obtain ⟨ρ, F, hid, r, p⟩ := h
  unfold mFz at p
  split at p
  · rename_i o ho
    cases ed : o.dat with
    | none => simp only [ed] at p; exact p.elim
    | some x =>
      simp only [ed] at p
      obtain ⟨v, F1, G, e1, pm, ro, re⟩ := renv_none r.env ho
      have nF := (List.nodup_append.mp r.nd)
      have nFG := List.nodup_append.mp (pm.nodup_iff.mp nF.1)
      have subG : ∀ a ∈ G ++ hid, a ∈ F ++ hid := fun a m => (List.mem_append.mp m).elim (fun z => List.mem_append_left _ (pm.mem_iff.mpr (List.mem_append_right _ z))) fun z => List.mem_append_right _ z
      have nd : (G ++ hid).Nodup := List.nodup_append.mpr ⟨nFG.2.1, nF.2.1, fun a m b m' => nF.2.2 a (pm.mem_iff.mpr (List.mem_append_right _ m)) b m'⟩
      have d : Dp g.K (off H (G ++ hid)) v x := ro_dat rfl (off_sub subG) ro (fun a m u hu => by
        unfold off
        rw [if_neg fun z => ?_]
        · exact hu
        · rcases List.mem_append.mp z with z | z
          · exact nFG.2.2 a m a z rfl
          · exact nF.2.2 a (pm.mem_iff.mpr (List.mem_append_left _ m)) a z rfl) ed
      have re2 : REnv g H (off H (G ++ hid)) σ (ρ.set i none) G := renv_mono (off_sub subG) re fun _ _ => rfl
      obtain ⟨_, G2, g1, g2, _, g3⟩ := REnv.put i re2
      obtain ⟨F', p2, re3⟩ := g3 v (.d x) [] (List.getElem?_eq_some_iff.mp e1).1 (.d d)
      rw [set_same e1, List.set_set] at re3
      have sub2 : ∀ a ∈ F' ++ hid, a ∈ G ++ hid := fun a m => (List.mem_append.mp m).elim (fun z => List.mem_append_left _ (g1 a (by simpa using p2.mem_iff.mp z))) fun z => List.mem_append_right _ z
      have nd2 : (F' ++ hid).Nodup := by
        obtain ⟨n1, n2, n3⟩ := List.nodup_append.mp nd
        exact List.nodup_append.mpr ⟨p2.nodup_iff.mpr (by simpa using g2 n1), n2, fun a m b m' => n3 a (g1 a (by simpa using p2.mem_iff.mp m)) b m'⟩
      have r3 : Rel g H σ (ρ.set i (some (.d x))) F' hid := ⟨renv_mono (off_sub sub2) re3 fun _ _ => rfl, nd2, fun a m => r.tr a (subG a (sub2 a m))⟩
      exact ⟨v, e1, Post.finD (S0 := []) p r3 (Ext.sub fun a m => subG a (sub2 a m)) (dp_mono (off_sub sub2) d)⟩
  · exact p.elim
theorem fe_take (i : Nat) (hN : X.N[i]? = some x := by rfl) (hv : Vis X.env.scope x := by first | exact Or.inl rfl | exact Or.inr (Or.inl rfl) | exact Or.inr (Or.inr rfl)) (hd : (x == ("__debug__" : Str)) = false := by decide)
    (hcd : (x == ("__classdict__" : Str)) = false := by decide) : PE X (.Name x pos) (sE g W (mTake i)) := PE.imp (pe_var hN hv hd hcd) fun _ _ _ h => sE_take h
theorem fe_fz (i : Nat) (hN : X.N[i]? = some x := by rfl) (hv : Vis X.env.scope x := by first | exact Or.inl rfl | exact Or.inr (Or.inl rfl) | exact Or.inr (Or.inr rfl)) (hd : (x == ("__debug__" : Str)) = false := by decide)
    (hcd : (x == ("__classdict__" : Str)) = false := by decide) : PE X (.Name x pos) (sE g W (mFz i)) := PE.imp (pe_var hN hv hd hcd) fun _ _ _ h => sE_fz h
theorem fe_frzE (h : PE X e (sE g W m)) : PE X e (sE g W (mFrz m)) := PE.imp h fun _ _ _ q => sE_frz q
theorem sE_cat {ma mb : M} {Q : VK} (h : sE g W (mCat ma mb) σ H Q) : sE g W ma σ H fun x H1 => sE g W mb σ H1 fun y H2 => rCatL g.K x y H2 Q := by
  obtain ⟨ρ, F, hid, r0, p⟩ := h
  refine ⟨ρ, F, hid, r0, Post.bind (G := []) Ext.refl p fun x ρ1 H1 F1 G1 v r1 x1 v1 p1 => ?_⟩
  refine ⟨ρ1, F1, G1 ++ hid, r1, Post.bind (G := G1) x1 p1 fun y ρ2 H2 F2 G2 w r2 x2 v2 p2 => ?_⟩
  split at p2
  · rename_i xs ys e1 e2
    split at p2
    · rename_i hl
      have hl := of_decide_eq_true hl
      have o1 := rv_view v1 x2.op (fun c m => x2.hd c (List.mem_append_left _ m)) r2 e1
      have o2 := rv_view v2 (Same.refl _) (fun _ _ => rfl) r2 e2
      obtain ⟨a, vs, rfl, h1, d1⟩ := VW.list o1 off_le
      obtain ⟨b, ws, rfl, h2, d2⟩ := VW.list o2 off_le
      refine ⟨a, b, vs, ws, rfl, rfl, h1, h2, by rw [DpAll.length d1, DpAll.length d2, line_eq]; exact hl, fun q hn => ?_⟩
      have r3 : Rel g H2 σ ρ2 F2 ([] ++ hid) := rel_drop (rel_drop r2)
      have sub : ∀ a ∈ F2 ++ ([] ++ hid), a ∈ F2 ++ (G2 ++ (G1 ++ hid)) := fun a m => (List.mem_append.mp m).elim (List.mem_append_left _) fun z => List.mem_append_right _ (List.mem_append_right _ (List.mem_append_right _ z))
      have xx : Ext hid H (F ++ hid) H2 (F2 ++ ([] ++ hid)) := (Ext.trans x1 (x2.less fun c m => List.mem_append_right _ m)).trans (Ext.sub sub)
      exact Post.endO (F1 := []) p2 r3 xx hn (.lst upd_same (ros_dat (dpAll_mono (off_sub sub) (DpAll.append d1 d2))))
    · exact p2.elim
  · exact p2.elim
theorem fe_cat {ma mb : M} (ha : PE X a (sE g W ma)) (hb : PE X b (sE g W mb)) (hK : g.K = X.K := by rfl) : PE X (.BinOp a .Add b pos) (sE g W (mCat ma mb)) := PE.imp (pe_op op_catL ha hb) fun _ _ _ h => by
  rw [← hK]
  exact sE_cat h
end
end FL
end
section
set_option Elab.async false
set_option linter.all false
set_option maxRecDepth 100000
set_option autoImplicit false
namespace L2
open PySem PySem.Spec PyProof.Rows
section
variable {X : Cx}
/-- tuple(xs) of a list, the very object told -/
theorem call_tupleF : CallR X (.type "tuple") (fun xs H Q => ∃ p ys, xs = [.ref p] ∧ SqL X.K H p ys ∧ ∀ l o, H l = none → o.dict = none → Q (.ref l) (upd H l (.frz o (.tup ys)))) := by
  intro pins s σ H xs us Q I r h
  obtain ⟨p, ys, rfl, hq, q⟩ := h
  obtain ⟨u, rfl, rx⟩ := vals1 r
  cases rx
  obtain ⟨its, rv, pl, hz⟩ := I.list hq
  refine call_tuple_list pl.isList (fun hp kp => ?_) (by rw [List.size_toArray, ← rv.length]; exact hz)
  have J := I.kept (t' := s.toks) kp
  have J2 : Inv X pins σ (upd H hp.objs.size (.frz { cls := .type "tuple", data := .seq its.toArray } (.tup ys))) { s with heap := hp.push { cls := .type "tuple", data := .seq its.toArray } } :=
    J.laid (t' := s.toks) (fun b o e => Heap.get?_push_of_some _ e) (Nat.le_refl _) ⟨Heap.get?_push_size _ rfl, hz, its, rv, IsTup.new _ _⟩
  exact ⟨.ref hp.objs.size, _, J2, rfl, q _ _ (J.hok.fresh (Nat.le_refl _)) rfl⟩
/-- range(n) as a value -/
theorem cr_range1 : CallR X (.type "range") (fun vs H Q => ∃ j, vs = [V.int j] ∧ ∀ p, H p = none → Q (.ref p) (upd H p (.rng 0 j))) := by
  intro pins s σ H vs us Q I r h
  obtain ⟨j, rfl, q⟩ := h
  obtain ⟨u, rfl, t, rfl⟩ := vals1 r
  refine call_range_1 ⟨.ref s.heap.objs.size, upd H s.heap.objs.size (.rng 0 j), I.laid (t' := s.toks + 1 + 1) (fun b o e => Heap.get?_push_of_some _ e) (Nat.le_refl _) ?_, rfl, q _ (I.hok.fresh (Nat.le_refl _))⟩
  exact ⟨_, _, _, Heap.get?_push_size _ rfl⟩
def iRgV (tl : TE) : TI := fun σ H R => tl σ H fun x H1 => ∃ a lo hi, x = V.ref a ∧ H1 a = some (.rng lo hi) ∧ (-(2 ^ 62) ≤ lo ∧ lo < 2 ^ 62 ∧ -(2 ^ 62) ≤ hi ∧ hi < 2 ^ 62) ∧ R (Itr lo (hi - lo).toNat) H1
/-- a range that stands already, walked -/
theorem pi_rgV {tg l : Expr} {tl : TE} (hl : PE X l tl) : PI X tg l (iRgV tl) := by
  refine ⟨fun pins s σ H R I h => ?_⟩
  refine thn (hl.run pins s σ H _ I h) fun v s1 ⟨x, H1, I1, r1, q1⟩ => ?_
  obtain ⟨a, lo, hi, rfl, ha, ⟨h1, h2, h3, h4⟩, q⟩ := q1
  cases r1
  obtain ⟨t, u, v, e⟩ := I1.hok a _ ha
  have hr : IsRange s1.heap a lo hi 1 t u v := e
  refine wpAny_pyIter_range hr (small_one h1 h2 h3 h4) ?_
  refine ⟨s1.heap.objs.size, [s1.heap.objs.size], _, _, H1, rfl, I1.kept (t' := s1.toks) fun b o e => Heap.get?_push_of_some _ e, turn_range _ lo (hi - lo).toNat, ?_, fun b hb => ?_, q⟩
  · show IsRangeIter _ _ (lo + ((0 : Nat) : Int) * 1) ((((hi - lo).toNat : Nat) : Int) - ((0 : Nat) : Int)) 1
    rw [show lo + ((0 : Nat) : Int) * 1 = lo by simp, show (((hi - lo).toNat : Nat) : Int) - ((0 : Nat) : Int) = Builtin.Range.rangeSize lo hi 1 by rw [rangeSize_one]; split <;> omega]
    exact Heap.get?_push_size _ rfl
  · obtain rfl : b = s1.heap.objs.size := by simpa using hb
    exact I1.fpOk (Nat.le_refl _) (I1.hok.fresh (Nat.le_refl _))
/-- the first place of an int -/
def ixI (z : Int) : List Int → Option Nat
  | [] => none
  | y :: ys => if y = z then some 0 else (match ixI z ys with | some j => some (j + 1) | none => none)
theorem ixI_get (z : Int) : ∀ {ys : List Int} {j : Nat}, ixI z ys = some j → ys[j]? = some z ∧ ∀ m, m < j → ys[m]? ≠ some z
  | [], _, h => by cases h
  | y :: ys, j, h => by
    unfold ixI at h
    split at h
    · rename_i e
      cases h
      exact ⟨by rw [e]; rfl, fun m hm => by omega⟩
    · rename_i e
      split at h
      · rename_i k hk
        cases h
        obtain ⟨h1, h2⟩ := ixI_get z hk
        refine ⟨by simpa using h1, fun m hm => ?_⟩
        cases m with
        | zero => simpa using e
        | succ m => simpa using h2 m (by omega)
      · cases h
/-- t.index(z), the object of t told -/
def tIdx (K : PySem.W.Frag) (to : TE) (t : TA) : TE := fun σ H Q => to σ H fun x H1 => (∃ p o ys, x = .ref p ∧ H1 p = some (.frz o (.tup ys)) ∧ o.dict = none) ∧ t σ H1 fun xs H2 => ∃ p o ns z j, x = .ref p ∧ H2 p = some (.frz o (.tup (ns.map V.int))) ∧ xs = [.int z] ∧ ixI z ns = some j ∧ Q (.int (j : Nat)) H2
theorem pe_tidx {o e : Expr} {to : TE} {t : TA} {apos cpos : Pos} (ho : PE X o to) (ha : PA X [e] t)
    (hbase : attributeBase o "index" X.env (eval o X.env) = eval o X.env := by rfl)
    (hfew : ((backTo cpos (starEach [e] X.env)).all (fun x => !x.1) && (backToKw cpos (keywordEach [] X.env)).all (fun x => x.1.isSome)
      && decide (([e] : List Expr).length + ([] : List Keyword).length + (if ([] : List Keyword).isEmpty then 0 else 1) < 30)) = true := by rfl)
    (hline : (apos.endLine == cpos.line) = true := by rfl) (hs : starEach [e] X.env = (false, eval e X.env) :: starEach [] X.env := by rfl) (hplain : (backTo cpos (starEach [] X.env)).any (·.1) = false := by rfl) :
    PE X (.Call (.Attribute o "index" apos) [e] [] cpos) (tIdx X.K to t) := by
  refine ⟨fun pins s σ H Q I h => ?_⟩
  refine wpAny_Call_method_late hbase hfew hline rfl (thn (ho.run pins s σ H _ I h) fun v s1 ⟨x, H1, I1, r1, ⟨p, ob, ys, ex, hp, hd⟩, q1⟩ => ?_)
  subst ex
  cases r1
  obtain ⟨e1, hz, its, rv, ob2, e2, hc, _⟩ := I1.hok p _ hp
  have eo : ob2 = ob := Option.some.inj (e2.symm.trans e1)
  subst eo
  refine ⟨"tuple", "tuple.index", PySem.F.plainAttrs_tuple, PySem.F.slot_tuple_index, PySem.F.type_tuple_index, ⟨ob2, e1, hc⟩, fun a ea => ?_, ?_⟩
  · cases ea
    exact ⟨ob2, e1, hd⟩
  have hA := ha.run cpos pins s1 σ H1 _ I1 q1
  rw [hs] at hA ⊢
  refine Calls.callWith_builtin (by show (false || (backTo cpos (starEach [] X.env)).any (·.1)) = false; rw [hplain] <;> rfl) (Calls.evalArgs_plain ?_)
  refine thn hA fun us s2 ⟨vs, H2, I2, r2, q2⟩ => ?_
  obtain ⟨p', o', ns, z, j, ep, hp2, rfl, hj, q⟩ := q2
  cases ep
  obtain ⟨u, rfl, tz, rfl⟩ := vals1 r2
  obtain ⟨e3, hz3, its3, rv3, ob3, e4, hc3, n3, hd3⟩ := I2.hok p _ hp2
  obtain ⟨cls3, dd3, dt3, sl3⟩ := ob3
  simp only at hc3 hd3
  subst hc3
  subst hd3
  obtain ⟨j1, j2⟩ := ixI_get z hj
  have hl : its3.toArray.size = ns.length := by rw [List.size_toArray, ← rv3.length, List.length_map]
  have hjl : j < its3.toArray.size := by rw [hl]; exact (List.getElem?_eq_some_iff.mp j1).1
  have at' : ∀ (m : Nat) (hm : m < its3.toArray.size), ∃ y t', ns[m]? = some y ∧ its3.toArray[m] = Value.int y t' := fun m hm => by
    have hm' : m < ns.length := by rw [← hl]; exact hm
    obtain ⟨w, hw, t', hw'⟩ := rv3.get (i := m) (x := .int ns[m]) (by simp [hm'])
    refine ⟨ns[m], t', List.getElem?_eq_getElem hm', ?_⟩
    have e := (List.getElem?_eq_some_iff.mp hw).2
    rw [← hw', ← e]
    simp
  have flat : (ns.map V.int).all flatV = true := by
    rw [List.all_map]
    exact List.all_eq_true.mpr fun _ _ => rfl
  refine call_meets PySem.F.slot_tuple_index ⟨_, e4, rfl⟩ PySem.F.entry_tuple_index (PySem.F.args_tuple_index_2 _ _) (TI.tuple_indexAt p its3.toArray n3 dd3 sl3 (.int z tz) (eqU (.int z)) j hjl ?_ ?_)
    ⟨e4, fun w hw => mem_eqAt (x := .int z) ⟨tz, rfl⟩ rfl rv3 flat w (by simpa using hw), ⟨.int (j : Nat), H2, I2.tok _, ⟨_, rfl⟩, q⟩⟩
  · obtain ⟨y, t', h1, h2⟩ := at' j hjl
    rw [j1] at h1
    cases h1
    rw [h2]
    show (z == z) = true
    exact beq_self_eq_true z
  · intro m hm hmj
    obtain ⟨y, t', h1, h2⟩ := at' m hm
    rw [h2]
    show (y == z) = false
    exact beq_eq_false_iff_ne.mpr fun e => j2 m hmj (e ▸ h1)
end
end L2
end
section
set_option Elab.async false
set_option linter.all false
set_option maxRecDepth 100000
set_option autoImplicit false
namespace FL
open PySem PySem.Spec PyProof.Rows L2

/-! ### products, subscripts -/
def oMulI := fI okMul fun a b => a * b
def oMulT : PyData → PyData → Option PyData
  | .tuple xs, .int k => if decide (k ≤ 1000) && (decide (2 ≤ k) && (decide (xs.length ≤ 1000) && decide (0 < xs.length))) = true then some (.tuple (List.replicate k.toNat xs).flatten) else none
  | _, _ => none
def oIx : PyData → PyData → Option PyData
  | .list xs, .int i => atI xs i
  | .tuple xs, .int i => atI xs i
  | _, _ => none
/-- a list of one's own, that stands for the time of the call only -/
def mRep (ma mb : M) : M := fun ρ => (ma ρ).bind fun x ρ1 => match x with
  | .o (.lst os) => (match allD os with
    | some xs => (mb ρ1).bind fun y ρ2 => (match intR ρ2 y with
      | some k => if (decide (k < 1000000) && (decide (-1000000 < k) && decide (xs.length * k.toNat ≤ 16777216))) = true then .ok (.o (.lst ((List.replicate k.toNat xs).flatten.map .d))) ρ2 else .bad
      | none => .bad)
    | none => .bad)
  | _ => .bad
def mTupF (m : M) : M := fun ρ => (m ρ).bind fun x ρ1 => match x.view ρ1 with
  | some (.list xs) => .ok (.o (.tf xs)) ρ1
  | _ => .bad
def mRg (m : M) : M := fun ρ => (m ρ).bind fun x ρ1 => match x.view ρ1 with
  | some (.int n) => .ok (.o (.rg 0 n)) ρ1
  | _ => .bad
def mWalkRg (m : M) : Mi := fun ρ => (m ρ).bind fun x ρ1 => match x with
  | .o (.rg lo hi) => if (small lo && small hi) = true then .ok (rangeL lo (hi - lo).toNat) ρ1 else .bad
  | _ => .bad
def rgO (a b : Int) : List PyData := rangeL a (b - a).toNat
def okRg (a b : Int) : Bool := small a && (small b && decide ((b - a).toNat ≤ 16777216))
/-- list(range(n)) -/
def mLRg (m : M) : M := fun ρ => (m ρ).bind fun x ρ1 => match x.view ρ1 with
  | some (.int n) => if okRg 0 n = true then .ok (.o (.lst ((rgO 0 n).map .d))) ρ1 else .bad
  | _ => .bad
/-- p.index(z) -/
def mIdx (i : Nat) (m : M) : M := fun ρ => match ρ[i]? with
  | some (some (.tf _)) => (m ρ).bind fun x ρ1 => (match ρ1[i]? with
    | some (some (.tf xs)) => (match intsOf xs, x.view ρ1 with
      | some ns, some (.int z) => (match ixI z ns with
        | some j => .ok (.o (.d (.int (j : Nat)))) ρ1
        | none => .bad)
      | _, _ => .bad)
    | _ => .bad)
  | _ => .bad
def mIsI (T : String) (m : M) : M := fun ρ => (m ρ).bind fun x ρ1 => match x with
  | .o (.d y) => (match isD y T with | some b => .ok (.o (.d (.bool b))) ρ1 | none => .bad)
  | _ => .bad
def intAt (ρ : Env) (i : Nat) : Option Int := match ρ[i]? with | some (some (.d (.int k))) => some k | _ => none
/-- xs[i][k] of lists of one's own -/
def mIx2 (j i k : Nat) : M := fun ρ => match ρ[j]? with
  | some (some (.lst os)) => (match intAt ρ i, intAt ρ k with
    | some a, some b => (match atI os a with
      | some (.lst us) => (match atI us b with
        | some (.d x) => .ok (.o (.d x)) ρ
        | _ => .bad)
      | _ => .bad)
    | _, _ => .bad)
  | _ => .bad
def mSetIx2 (j i k : Nat) (mv : M) : MS := fun ρ => (mv ρ).toS fun x ρ1 => match x.datR, ρ1[j]? with
  | some y, some (some (.lst os)) => (match intAt ρ1 i, intAt ρ1 k with
    | some a, some b => (match ixN os.length a with
      | some p => (match os[p]? with
        | some (.lst us) => (match ixN us.length b with
          | some q => (match us[q]? with
            | some (.d _) => .nx (ρ1.set j (some (.lst (os.set p (.lst (us.set q (.d y)))))))
            | _ => .bad)
          | none => .bad)
        | _ => .bad)
      | none => .bad)
    | _, _ => .bad)
  | _, _ => .bad
section
variable {X : Cx} {g : Gd} {W : XW} {keep : List Nat} {K : PySem.W.Frag} {σ σ' : L2.St} {ρ ρ' : Env} {H H0 H' Ho Ho' : Hp} {F F0 G hid F1 S S' : List Addr} {pos py pt p q : Pos} {e a b : Expr} {m : M} {x y : Str}
theorem o_mulI : Op2 K (rI CMul fun i j => .int (i * j)) oMulI := o2_int fun i j h => by
  unfold okMul at h
  simpa [CMul] using h
theorem dpAll_flat {vs : List V} {xs : List PyData} (d : DpAll K H vs xs) : ∀ n : Nat, DpAll K H (List.replicate n vs).flatten (List.replicate n xs).flatten
  | 0 => .nil
  | n + 1 => by
    rw [List.replicate_succ, List.replicate_succ, List.flatten_cons, List.flatten_cons]
    exact DpAll.append d (dpAll_flat d n)
theorem o_mulT : Op2 K (rRepT K) oMulT := by
  intro v w H Ho Q x y z hs h1 h2 e en
  unfold oMulT at e
  split at e
  · split at e
    · rename_i hc
      cases e
      simp only [Bool.and_eq_true, decide_eq_true_eq] at hc
      obtain ⟨a, us, rfl, s1, s1', d⟩ := VW.tup h1 hs
      obtain rfl := VW.int h2
      have hl := DpAll.length d
      refine ⟨a, _, us, rfl, rfl, s1, fun z => ?_, by omega, by omega, by omega, fun p hp => en.tup (dpAll_flat d _) hs p hp⟩
      subst z
      simp at hl
      omega
    · cases e
  · cases e
theorem dpAll_atI {vs : List V} {xs : List PyData} {i : Int} {z : PyData} (d : DpAll K H vs xs) (e : atI xs i = some z) : ∃ v, atI vs i = some v ∧ Dp K H v z := by
  unfold atI at e ⊢
  rw [DpAll.length d]
  cases q : ixN xs.length i with
  | none => rw [q] at e; cases e
  | some j =>
    rw [q] at e
    have e : xs[j]? = some z := e
    obtain ⟨v, e1, e2⟩ := DpAll.getR d e
    exact ⟨v, e1, e2⟩
theorem o_ix : Op2 K (fun x y H Q => rIxL K x y H Q ∨ rIxT K x y H Q) oIx := by
  intro v w H Ho Q x y z hs h1 h2 e en
  unfold oIx at e
  split at e
  · obtain ⟨a, us, rfl, s1, d⟩ := VW.list h1 hs
    obtain rfl := VW.int h2
    obtain ⟨v, e1, dv⟩ := dpAll_atI d e
    exact .inl ⟨a, us, _, v, rfl, rfl, s1, e1, en.1 _ dv⟩
  · obtain ⟨a, us, rfl, s1, s1', d⟩ := VW.tup h1 hs
    obtain rfl := VW.int h2
    obtain ⟨v, e1, dv⟩ := dpAll_atI d e
    exact .inr ⟨a, us, _, v, rfl, rfl, s1, e1, en.1 _ dv⟩
  · cases e
theorem fe_at {ma mb : M} (ha : PE X a (sE g W ma)) (hb : PE X b (sE g W mb)) (hK : g.K = X.K := by rfl) (hs : PlainIx b := by exact fun _ _ => rfl) : PE X (.Subscript a b pos) (sE g W (mOp oIx ma mb)) := by
  refine fe_ix (IxR.or ix_list ix_tup) ?_ ha hb hs
  rw [hK]
  exact o_ix
theorem sE_tupF {m : M} {Q : VK} (h : sE g W (mTupF m) σ H Q) : tCB (fun xs H Q => ∃ p ys, xs = [.ref p] ∧ SqL g.K H p ys ∧ ∀ l o, H l = none → o.dict = none → Q (.ref l) (upd H l (.frz o (.tup ys)))) (tCons (sE g W m) tNil) σ H Q := by
  obtain ⟨ρ, F, hid, r, p⟩ := h
  refine ⟨ρ, F, hid, r, Post.bind (G := []) Ext.refl p fun x ρ1 H1 F1 G1 v r1 x1 v1 p1 => ?_⟩
  split at p1
  · rename_i xs e1
    have o1 := rv_view v1 (Same.refl _) (fun _ _ => rfl) r1 e1
    obtain ⟨a, us, rfl, s1, d⟩ := VW.list o1 off_le
    refine ⟨a, us, rfl, s1, fun l o hn hd => ?_⟩
    have r2 : Rel g H1 σ ρ1 F1 ([] ++ hid) := rel_drop r1
    have np := r2.fresh hn
    have sub : ∀ a ∈ F1 ++ ([] ++ hid), a ∈ F1 ++ (G1 ++ hid) := fun a m => (List.mem_append.mp m).elim (List.mem_append_left _) fun z => List.mem_append_right _ (List.mem_append_right _ z)
    have r3 : Rel g (upd H1 l (.frz o (.tup us))) σ ρ1 F1 ([] ++ hid) := r2.same (same_upd hn)
    have eo : upd (off H1 (F1 ++ ([] ++ hid))) l (.frz o (.tup us)) = off (upd H1 l (.frz o (.tup us))) (F1 ++ ([] ++ hid)) := by
      funext b
      unfold off
      by_cases hb : b = l
      · subst hb
        rw [upd_same, if_neg np, upd_same]
      · rw [upd_ne hb, upd_ne hb]
    refine Post.fin (S0 := []) (F1 := []) p1 r3 ((x1.trans (Ext.sub sub)).trans (Ext.upd hn fun c m => r2.hidT c (List.mem_append_right _ m))) (List.Sublist.refl _) ?_
    rw [← eo]
    refine RO.tf upd_same hd ?_
    refine dpAll_mono (fun b u e => ?_) d
    have e2 := off_sub sub b u e
    rw [upd_ne (ne_of_none (off_le b u e) hn)]
    exact e2
  · exact p1.elim
theorem fe_tupF (hm : X.mg "tuple" = none) (ha : PE X a (sE g W m)) (hK : g.K = X.K := by rfl) (hg : Gl X "tuple" := by rfl) (hs : starEach [a] X.env = (false, eval a X.env) :: starEach [] X.env := by rfl) (hpl : (backTo pos (starEach [] X.env)).any (·.1) = false := by rfl) :
    PE X (.Call (.Name "tuple" p) [a] [] pos) (sE g W (mTupF m)) := PE.imp (pe_callTy call_tupleF hg hm PyProof.Rows.boot_tuple (pa_cons ha pa_nil hs) (by decide) (by decide) hs hpl) fun _ _ _ h => by
  rw [← hK]
  exact sE_tupF h
theorem sE_rg {m : M} {Q : VK} (h : sE g W (mRg m) σ H Q) : tCB (fun vs H Q => ∃ j, vs = [V.int j] ∧ ∀ p, H p = none → Q (.ref p) (upd H p (.rng 0 j))) (tCons (sE g W m) tNil) σ H Q := by
  obtain ⟨ρ, F, hid, r, p⟩ := h
  refine ⟨ρ, F, hid, r, Post.bind (G := []) Ext.refl p fun x ρ1 H1 F1 G1 v r1 x1 v1 p1 => ?_⟩
  split at p1
  · rename_i n e1
    obtain rfl := (rv_view v1 (Same.refl _) (fun _ _ => rfl) r1 e1).int
    refine ⟨n, rfl, fun l hn => ?_⟩
    have r2 : Rel g H1 σ ρ1 F1 ([] ++ hid) := rel_drop r1
    have np := r2.fresh hn
    have sub : ∀ a ∈ F1 ++ ([] ++ hid), a ∈ F1 ++ (G1 ++ hid) := fun a m => (List.mem_append.mp m).elim (List.mem_append_left _) fun z => List.mem_append_right _ (List.mem_append_right _ z)
    have r3 : Rel g (upd H1 l (.rng 0 n)) σ ρ1 F1 ([] ++ hid) := r2.same (same_upd hn)
    have eo : upd (off H1 (F1 ++ ([] ++ hid))) l (.rng 0 n) = off (upd H1 l (.rng 0 n)) (F1 ++ ([] ++ hid)) := by
      funext b
      unfold off
      by_cases hb : b = l
      · subst hb
        rw [upd_same, if_neg np, upd_same]
      · rw [upd_ne hb, upd_ne hb]
    refine Post.fin (S0 := []) (F1 := []) p1 r3 ((x1.trans (Ext.sub sub)).trans (Ext.upd hn fun c m => r2.hidT c (List.mem_append_right _ m))) (List.Sublist.refl _) ?_
    rw [← eo]
    exact RO.rg upd_same
  · exact p1.elim
theorem fe_rg (hm : X.mg "range" = none) (ha : PE X a (sE g W m)) (hg : Gl X "range" := by rfl) (hs : starEach [a] X.env = (false, eval a X.env) :: starEach [] X.env := by rfl) (hpl : (backTo pos (starEach [] X.env)).any (·.1) = false := by rfl) :
    PE X (.Call (.Name "range" p) [a] [] pos) (sE g W (mRg m)) := PE.imp (pe_callTy cr_range1 hg hm boot_range (pa_cons ha pa_nil hs) (by decide) (by decide) hs hpl) fun _ _ _ h => sE_rg h
theorem sI_rg {m : M} {R : It → Hp → Prop} (h : sI g W (mWalkRg m) σ H R) : iRgV (sE g W m) σ H R := by
  obtain ⟨ρ, F, hid, r, p⟩ := h
  refine ⟨ρ, F, hid, r, Post.bind (G := []) Ext.refl p fun x ρ1 H1 F1 G1 v r1 x1 v1 p1 => ?_⟩
  split at p1
  · rename_i lo hi
    split at p1
    · rename_i hsm
      rw [Bool.and_eq_true] at hsm
      have v1 : RO g H1 (off H1 (F1 ++ (G1 ++ hid))) v (.rg lo hi) G1 := v1
      cases v1 with
      | rg h1 =>
        have s1 := small_iff hsm.1
        have s2 := small_iff hsm.2
        exact ⟨_, lo, hi, rfl, off_le _ _ h1, ⟨s1.1, s1.2, s2.1, s2.2⟩, p1 H1 F1 [] _ (rel_drop r1) (ext_drop x1) ⟨rfl, yl_range⟩⟩
    · exact p1.elim
  · exact p1.elim
theorem fi_rg {tg : Expr} (h : PE X e (sE g W m)) : PI X tg e (sI g W (mWalkRg m)) := PI.imp (pi_rgV h) fun _ _ _ q => sI_rg q
theorem rgV_dp (lo hi : Int) : DpAll K H (rgV lo hi) (rgO lo hi) := by
  unfold rgV rgO rangeL
  generalize (hi - lo).toNat = n
  generalize List.range n = l
  induction l with
  | nil => exact .nil
  | cons k ks ih => exact .cons (.int _) ih
theorem sE_lrg {m : M} {Q : VK} (h : sE g W (mLRg m) σ H Q) : tLstRg (tRg1 (sE g W m)) σ H Q := by
  obtain ⟨ρ, F, hid, r, p⟩ := h
  refine ⟨ρ, F, hid, r, Post.bind (G := []) Ext.refl p fun x ρ1 H1 F1 G1 v r1 x1 v1 p1 => ?_⟩
  split at p1
  · rename_i n e1
    split at p1
    · rename_i ok
      obtain rfl := (rv_view v1 (Same.refl _) (fun _ _ => rfl) r1 e1).int
      unfold okRg at ok
      rw [Bool.and_eq_true, Bool.and_eq_true] at ok
      obtain ⟨k1, k2, k3⟩ := ok
      have k1 := small_iff k1
      have k2 := small_iff k2
      have k3 := of_decide_eq_true k3
      refine ⟨n, rfl, ⟨k1.1, k1.2, k2.1, k2.2, k3⟩, fun l hn => ?_⟩
      have r2 : Rel g H1 σ ρ1 F1 ([] ++ hid) := rel_drop r1
      have sub : ∀ a ∈ F1 ++ ([] ++ hid), a ∈ F1 ++ (G1 ++ hid) := fun a m => (List.mem_append.mp m).elim (List.mem_append_left _) fun z => List.mem_append_right _ (List.mem_append_right _ z)
      exact Post.endO (F1 := []) p1 r2 (x1.trans (Ext.sub sub)) hn (.lst upd_same (ros_dat (rgV_dp 0 n)))
    · exact p1.elim
  · exact p1.elim
theorem fe_lrg {pr : Pos} (hm : X.mg "range" = none) (hm2 : X.mg "list" = none) (ha : PE X a (sE g W m)) (hc : X.calm = true := by rfl) (hg : Gl X "range" := by rfl) (hg2 : Gl X "list" := by rfl) (na : starEach [a] X.env = (false, eval a X.env) :: starEach [] X.env := by rfl)
    (nb : starEach [.Call (.Name "range" p) [a] [] q] X.env = (false, eval (.Call (.Name "range" p) [a] [] q) X.env) :: starEach [] X.env := by rfl) : PE X (.Call (.Name "list" pr) [.Call (.Name "range" p) [a] [] q] [] pos) (sE g W (mLRg m)) :=
  PE.imp (pe_listRg hc hg2 hm2 (prg_1 hg hm ha na) nb) fun _ _ _ h => sE_lrg h
theorem sE_idx {i : Nat} {m : M} {Q : VK} (h : sE g W (mIdx i m) σ H Q) : tIdx g.K (tVar i) (tCons (sE g W m) tNil) σ H Q := by
  obtain ⟨ρ, F, hid, r, p⟩ := h
  unfold mIdx at p
  split at p
  · rename_i xs0 h0
    obtain ⟨v, F1, G, e1, _, ro, _⟩ := r.env.focus h0
    cases ro with
    | tf t1 t2 t3 =>
      refine ⟨_, e1, ⟨_, _, _, rfl, off_le _ _ t1, t2⟩, ρ, F, hid, r, Post.bind (G := []) Ext.refl p fun x ρ1 H1 F1 G1 v r1 x1 v1 p1 => ?_⟩
      split at p1
      · rename_i xs h2
        obtain ⟨v2, F2, G2, e2, _, ro2, _⟩ := r1.env.focus h2
        rw [e1] at e2
        cases e2
        cases ro2 with
        | tf u1 u2 u3 =>
          split at p1
          · rename_i ns z k1 k2
            split at p1
            · rename_i j hj
              obtain ⟨rfl, _⟩ := intsOf_dp u3 k1
              obtain rfl := (rv_view v1 (Same.refl _) (fun _ _ => rfl) r1 k2).int
              exact ⟨_, _, ns, z, j, rfl, off_le _ _ u1, rfl, hj, Post.finD (S0 := []) p1 (rel_drop r1) (x1.trans (Ext.sub fun a m => (List.mem_append.mp m).elim (List.mem_append_left _) fun z => List.mem_append_right _ (List.mem_append_right _ z))) (.int _)⟩
            · exact p1.elim
          · exact p1.elim
      · exact p1.elim
  · exact p.elim
theorem fe_idx {i : Nat} {o : Expr} {apos : Pos} (ho : PE X o (tVar i)) (ha : PE X e (sE g W m)) (hK : g.K = X.K := by rfl)
    (hbase : attributeBase o "index" X.env (eval o X.env) = eval o X.env := by rfl)
    (hfew : ((backTo pos (starEach [e] X.env)).all (fun x => !x.1) && (backToKw pos (keywordEach [] X.env)).all (fun x => x.1.isSome)
      && decide (([e] : List Expr).length + ([] : List Keyword).length + (if ([] : List Keyword).isEmpty then 0 else 1) < 30)) = true := by rfl)
    (hline : (apos.endLine == pos.line) = true := by rfl) (hs : starEach [e] X.env = (false, eval e X.env) :: starEach [] X.env := by rfl) (hplain : (backTo pos (starEach [] X.env)).any (·.1) = false := by rfl) :
    PE X (.Call (.Attribute o "index" apos) [e] [] pos) (sE g W (mIdx i m)) := PE.imp (pe_tidx ho (pa_cons ha pa_nil hs) hbase hfew hline hs hplain) fun _ _ _ h => by
  rw [← hK]
  exact sE_idx h
end
end FL
end
section
set_option Elab.async false
set_option linter.all false
set_option maxRecDepth 100000
set_option autoImplicit false
namespace FL
open PySem PySem.Spec PyProof.Rows L2
section
variable {X : Cx} {g : Gd} {W : XW} {keep : List Nat} {K : PySem.W.Frag} {σ σ' : L2.St} {ρ ρ' : Env} {H H0 H' Ho Ho' : Hp} {F F0 G hid F1 S S' : List Addr} {pos py pt p q : Pos} {e a b : Expr} {m : M} {x y : Str} {D : Ends}
/-! ### isinstance -/
theorem tyX_lst {a : Addr} {vs : List V} (h : SqL K H a vs) : TyX K H (.ref a) (.type "list") := by
  rcases h with (h | ⟨o, h⟩) | ⟨o, its, n, h1, h2, _⟩
  · exact .base (.lst h)
  · exact .base (.frz h)
  · exact .kList h1 h2
theorem tyX_tup {a : Addr} {vs : List V} (h : SqT K H a vs) : TyX K H (.ref a) (.type "tuple") := by
  rcases h with (h | ⟨o, h⟩) | ⟨o, its, n, h1, h2, _⟩
  · exact .base (.tup h)
  · exact .fTuple h
  · exact .kTuple h1 h2
theorem tyX_dp {v : V} {x : PyData} (h : Dp K H v x) : TyX K H v (.type (tyD x)) := by
  cases h with
  | non => exact .base .non
  | bl b => exact .base (.bl b)
  | int i => exact .base (.int i)
  | str i => exact .base (.str i)
  | lst h _ => exact tyX_lst h
  | tup h _ => exact tyX_tup h
def KO (T : String) : Prop := ∀ (K : PySem.W.Frag) (x : PyData) (b : Bool), isD x T = some b → PySem.W.kitOne K (.type (tyD x)) (.type T) = some b
theorem ko_int : KO "int" := fun K x b h => by
  cases x <;> first | (cases h; rfl) | (cases h; decide +kernel) | cases h
theorem ko_bool : KO "bool" := fun K x b h => by
  cases x <;> first | (cases h; rfl) | (cases h; decide +kernel) | cases h
theorem ko_tuple : KO "tuple" := fun K x b h => by
  cases x <;> first | (cases h; rfl) | (cases h; decide +kernel) | cases h
theorem ko_str : KO "str" := fun K x b h => by
  cases x <;> first | (cases h; rfl) | (cases h; decide +kernel) | cases h
theorem ko_list : KO "list" := fun K x b h => by
  cases x <;> first | (cases h; rfl) | (cases h; decide +kernel) | cases h
theorem sE_isI {T : String} {m : M} {Q : VK} (ko : KO T) (h : sE g W (mIsI T m) σ H Q) : tCB (rIsi g.K) (tCons (sE g W m) (tCons (tC (.ty T)) tNil)) σ H Q := by
  obtain ⟨ρ, F, hid, r, p⟩ := h
  refine ⟨ρ, F, hid, r, Post.bind (G := []) Ext.refl p fun x ρ1 H1 F1 G1 v r1 x1 v1 p1 => ?_⟩
  split at p1
  · rename_i y
    split at p1
    · rename_i bb hb
      have v1 : RO g H1 (off H1 (F1 ++ (G1 ++ hid))) v (.d y) G1 := v1
      cases v1 with
      | d d =>
        exact ⟨v, .ty T, .type (tyD y), .type T, bb, rfl, .ty T, tyX_dp (dp_mono off_le d), ko g.K y bb hb, Post.finD (S0 := []) p1 r1 x1 (.bl _)⟩
    · exact p1.elim
  · exact p1.elim
theorem fe_isI {T : String} {tn : Str} (ko : KO T) (hb : bootBuiltins tn = some (.type T)) (hm : X.mg "isinstance" = none) (hm2 : X.mg tn = none) (ha : PE X a (sE g W m)) (hK : g.K = X.K := by rfl) (hg : Gl X "isinstance" := by rfl) (hg2 : Gl X tn := by rfl) (hn : tn ≠ "__name__" := by decide) (hd : (tn == ("__debug__" : Str)) = false := by decide)
    (hs : starEach [a, .Name tn q] X.env = (false, eval a X.env) :: starEach [.Name tn q] X.env := by rfl) (hs2 : starEach [.Name tn q] X.env = (false, eval (.Name tn q) X.env) :: starEach [] X.env := by rfl) (hpl : (backTo pos (starEach [.Name tn q] X.env)).any (·.1) = false := by rfl) :
    PE X (.Call (.Name "isinstance" p) [a, .Name tn q] [] pos) (sE g W (mIsI T m)) :=
  PE.imp (pe_callB call_isi hg hm PyProof.Rows.boot_isinstance (pa_cons ha (pa_cons (pe_bltn (v := .ty T) hg2 hm2 hb rfl hn hd) pa_nil hs2) hs) (by decide) (by decide) hs hpl) fun _ _ _ h => by
    rw [← hK]
    exact sE_isI ko h

/-! ### lists in lists -/
theorem intAt_var {i : Nat} {k : Int} (r : Rel g H σ ρ F hid) (e : intAt ρ i = some k) : σ[i]? = some (some (.int k)) := by
  unfold intAt at e
  split at e
  · rename_i k' ho
    cases e
    obtain ⟨v, F1, G, e1, _, ro, _⟩ := r.env.focus ho
    cases ro with
    | d d =>
      cases d
      exact e1
  · cases e
theorem ro_atI {vs : List V} {os : List O} {i : Int} {o : O} (rs : ROs g H Ho vs os F) (e : atI os i = some o) : ∃ j v F1 F2, ixN os.length i = some j ∧ os[j]? = some o ∧ vs[j]? = some v ∧ atI vs i = some v ∧ RO g H Ho v o F1 ∧ ROs g H Ho (vs.eraseIdx j) (os.eraseIdx j) F2 ∧ F.Perm (F2 ++ F1) := by
  unfold atI at e ⊢
  have hl := ROs.length rs
  rw [hl]
  cases q : ixN os.length i with
  | none => rw [q] at e; cases e
  | some j =>
    rw [q] at e
    have e : os[j]? = some o := e
    obtain ⟨v, F1, F2, e1, ro, rs2, pm⟩ := ros_get rs e
    exact ⟨j, v, F1, F2, rfl, e, e1, e1, ro, rs2, pm⟩
theorem sE_ix2 {j i k : Nat} {Q : VK} (h : sE g W (mIx2 j i k) σ H Q) : tOp (rIxL g.K) (tOp (rIxL g.K) (tVar j) (tVar i)) (tVar k) σ H Q := by
  obtain ⟨ρ, F, hid, r, p⟩ := h
  unfold mIx2 at p
  split at p
  · rename_i os ho
    split at p
    · rename_i a b e1 e2
      split at p
      · rename_i us hu
        split at p
        · rename_i x hx
          obtain ⟨v, F1, G, ev, pm, ro, _⟩ := r.env.focus ho
          obtain ⟨A, vs, FT, rfl, rfl, hA, rs⟩ := ro_lst ro
          obtain ⟨_, w, F2, F3, _, _, _, hw, rw', _, _⟩ := ro_atI rs hu
          obtain ⟨B, ws, FT2, rfl, rfl, hB, rs2⟩ := ro_lst rw'
          obtain ⟨_, z, F4, F5, _, _, _, hz, rz, _, _⟩ := ro_atI rs2 hx
          cases rz with
          | d dz =>
            exact ⟨_, ev, _, intAt_var r e1, A, vs, a, _, rfl, rfl, .of hA, hw, _, intAt_var r e2, B, ws, b, z, rfl, rfl, .of hB, hz, Post.finD (S0 := []) p r Ext.refl dz⟩
        · exact p.elim
      · exact p.elim
    · exact p.elim
  · exact p.elim
theorem fe_ix2 {j i k : Nat} {o1 i1 k1 : Expr} (ho : PE X o1 (tVar j)) (hi : PE X i1 (tVar i)) (hk : PE X k1 (tVar k)) (hK : g.K = X.K := by rfl) (hs1 : PlainIx i1 := by exact fun _ _ => rfl) (hs2 : PlainIx k1 := by exact fun _ _ => rfl) : PE X (.Subscript (.Subscript o1 i1 p) k1 pos) (sE g W (mIx2 j i k)) :=
  PE.imp (pe_ix ix_list (pe_ix ix_list ho hi hs1) hk hs2) fun _ _ _ h => by
    rw [← hK]
    exact sE_ix2 h
/-- what a slot owns is changed within its own footprint -/
theorem Rel.rewrite {j : Nat} {o : O} (r : Rel g H σ ρ F hid) (ho : ρ[j]? = some (some o)) : ∃ v Fj, σ[j]? = some (some v) ∧ Fj.Nodup ∧ RO g H (off H (F ++ hid)) v o Fj ∧
    ∀ (b : Addr) (u : HO) (o' : O) (Fn : List Addr), b ∈ Fj → Fn.Perm Fj → RO g (upd H b u) (off H (F ++ hid)) v o' Fn → ∃ F'', Rel g (upd H b u) σ (ρ.set j (some o')) F'' hid ∧ Ext hid H (F ++ hid) (upd H b u) (F'' ++ hid) := by
  obtain ⟨v, Fj, Gj, e1, pm, ro, k⟩ := r.env.focus ho
  obtain ⟨n1, n2, n3⟩ := List.nodup_append.mp r.nd
  obtain ⟨p1, p2, p3⟩ := List.nodup_append.mp (pm.nodup_iff.mp n1)
  refine ⟨v, Fj, e1, p1, ro, fun b u o' Fn hb hp ro' => ?_⟩
  have bF : b ∈ F := pm.mem_iff.mpr (List.mem_append_left _ hb)
  have bS : b ∈ F ++ hid := List.mem_append_left _ bF
  obtain ⟨_, _, k3⟩ := k (upd H b u) (off H (F ++ hid)) (fun x m => upd_ne fun z => p3 b hb x m z.symm) (Same.refl _)
  obtain ⟨F2, pm2, re2⟩ := k3 v o' Fn ro'
  rw [set_same e1] at re2
  have pF : F2.Perm F := pm2.trans ((List.Perm.append_right Gj hp).trans pm.symm)
  have pS : (F2 ++ hid).Perm (F ++ hid) := List.Perm.append_right hid pF
  have eo : off (upd H b u) (F2 ++ hid) = off H (F ++ hid) := by
    rw [off_congr (S' := F ++ hid) fun a => pS.mem_iff, off_upd bS]
  refine ⟨F2, ⟨by rw [eo]; exact re2, pS.nodup_iff.mpr r.nd, fun a m => ?_⟩, ⟨by rw [eo]; exact Same.refl _, fun a m => upd_ne fun z => n3 b bF a m z.symm⟩⟩
  by_cases z : a = b
  · rw [z, upd_same]
    exact fun q => by cases q
  · rw [upd_ne z]
    exact r.tr a (pS.mem_iff.mp m)
/-- one item anew, its footprint permuted, the others' heap unchanged -/
theorem ros_put : ∀ {vs : List V} {os : List O} {F : List Addr} {j : Nat} {o : O}, ROs g H Ho vs os F → os[j]? = some o → ∃ v F1, vs[j]? = some v ∧ RO g H Ho v o F1 ∧ F1.Sublist F ∧
    ∀ (b : Addr) (u : HO) (o' : O), b ∈ F1 → F.Nodup → RO g (upd H b u) Ho v o' F1 → ROs g (upd H b u) Ho vs (os.set j o') F
  | _, _, _, _, _, .nil, e => by simp at e
  | _, _, _, 0, _, .cons (F := F) (F' := F') h r, e => by
    simp at e
    subst e
    refine ⟨_, F, rfl, h, List.sublist_append_left _ _, fun b u o' hb nd ro => .cons ro (ros_upd r fun m => ?_)⟩
    exact (List.nodup_append.mp nd).2.2 b hb b m rfl
  | _, _, _, j + 1, _, .cons (F := F) (F' := F') h r, e => by
    obtain ⟨v, F1, e1, ro, sub, k⟩ := ros_put (j := j) r (by simpa using e)
    refine ⟨v, F1, by simpa using e1, ro, sub.trans (List.sublist_append_right _ _), fun b u o' hb nd ro' => .cons (ro_upd h fun m => ?_) (k b u o' hb (List.nodup_append.mp nd).2.1 ro')⟩
    exact (List.nodup_append.mp nd).2.2 b m b (sub.subset hb) rfl
theorem ros_setD : ∀ {vs : List V} {os : List O} {F : List Addr} {j : Nat} {w : V} {y : PyData}, ROs g H Ho vs os F → (∃ x, os[j]? = some (.d x)) → Dp g.K Ho w y → ROs g H Ho (vs.set j w) (os.set j (.d y)) F
  | _, _, _, _, _, _, .nil, h, _ => by obtain ⟨_, h⟩ := h; simp at h
  | _, _, _, 0, _, _, .cons h r, e, d => by
    obtain ⟨x, e⟩ := e
    simp at e
    subst e
    cases h
    exact .cons (F := []) (.d d) r
  | _, _, _, j + 1, _, _, .cons h r, e, d => .cons h (ros_setD (j := j) r (by simpa using e) d)
theorem sS_setIx2 {j i k : Nat} {mv : M} (h : sS g W keep (mSetIx2 j i k mv) D σ H) : tAsg (sE g W mv) (gSub (tOp (rIxL g.K) (tVar j) (tVar i)) (tVar k) rSetL) D σ H := by
  obtain ⟨ρ, F, hid, r, p⟩ := h
  refine ⟨ρ, F, hid, r, Post.toS p fun x ρ1 H1 F1 G1 w r1 x1 v1 p1 => ?_⟩
  split at p1
  · rename_i y os ey ho
    split at p1
    · rename_i a b e1 e2
      split at p1
      · rename_i pp hp
        split at p1
        · rename_i us hu
          split at p1
          · rename_i q hq
            split at p1
            · rename_i x0 hx0
              cases x with
              | s _ => cases ey
              | o x =>
                have d : Dp g.K (off H1 (F1 ++ hid)) w y := ro_dat rfl off_more v1 (off_free r1.nd) ey
                have x1 : Ext hid H (F ++ hid) H1 (F1 ++ hid) := ext_drop x1
                have r1 : Rel g H1 σ ρ1 (F1) hid := rel_drop r1
                obtain ⟨v, Fj, ev, nd, ro, wr⟩ := r1.rewrite ho
                obtain ⟨A, vs, FT, rfl, rfl, hA, rs⟩ := ro_lst ro
                obtain ⟨nA, nFT⟩ := List.nodup_cons.mp nd
                obtain ⟨wv, Fi, hw, roI, sub, k9⟩ := ros_put rs hu
                obtain ⟨B, ws, FT2, rfl, rfl, hB, rs2⟩ := ro_lst roI
                have bFT : B ∈ FT := sub.subset List.mem_cons_self
                have nAB : A ≠ B := fun z => nA (z ▸ bFT)
                have nB : B ∉ FT2 := (List.nodup_cons.mp (sub.nodup nFT)).1
                obtain ⟨F3, r3, x3⟩ := wr B (.lst (ws.set q w)) (.lst (os.set pp (.lst (us.set q (.d y))))) (A :: FT) (List.mem_cons_of_mem _ bFT) (List.Perm.refl _)
                  (.lst (by rw [upd_ne nAB]; exact hA) (k9 B _ _ List.mem_cons_self nFT (.lst upd_same (ros_setD (ros_upd rs2 nB) ⟨_, hx0⟩ d))))
                have hat : atI vs a = some (.ref B) := by
                  unfold atI
                  rw [ROs.length rs, hp]
                  exact hw
                exact ⟨.ref A, ev, .int a, intAt_var r1 e1, A, vs, a, .ref B, rfl, rfl, .of hA, hat, .int b, intAt_var r1 e2, B, ws, b, q, rfl, rfl, hB, by rw [ROs.length rs2]; exact hq, p1 _ F3 σ r3 (x1.trans x3) fun _ _ => rfl⟩
            · exact p1.elim
          · exact p1.elim
        · exact p1.elim
      · exact p1.elim
    · exact p1.elim
  · exact p1.elim
end
end FL
end
section
set_option Elab.async false
set_option linter.all false
set_option maxRecDepth 100000
set_option autoImplicit false
namespace FL
open PySem PySem.Spec PyProof.Rows L2
section
variable {X : Cx} {g : Gd} {W : XW} {keep : List Nat} {k : Nat} {pos py pt p q : Pos} {e a b c : Expr} {m ma mb mc : M} {x y : Str}
theorem u64 (hr : Room k X.A) : X.A.units + 64 < cLine := hr.units
theorem u65 (hr : Room k X.A) : X.A.units + 65 < cLine := by have := hr.un; omega
/-! ### operators by name -/
theorem fe_add (ha : PE X a (sE g W ma)) (hb : PE X b (sE g W mb)) (hK : g.K = X.K := by rfl) : PE X (.BinOp a .Add b pos) (sE g W (mOp oAdd ma mb)) := fe_op op_add3 (by rw [← hK]; exact o_add) ha hb
theorem fe_sub (ha : PE X a (sE g W ma)) (hb : PE X b (sE g W mb)) : PE X (.BinOp a .Sub b pos) (sE g W (mOp oSub ma mb)) := fe_op op_sub o_sub ha hb
theorem fe_mul (ha : PE X a (sE g W ma)) (hb : PE X b (sE g W mb)) : PE X (.BinOp a .Mult b pos) (sE g W (mOp oMulI ma mb)) := fe_op op_mul o_mulI ha hb
theorem fe_mulT (ha : PE X a (sE g W ma)) (hb : PE X b (sE g W mb)) (hK : g.K = X.K := by rfl) : PE X (.BinOp a .Mult b pos) (sE g W (mOp oMulT ma mb)) := fe_op op_repT (by rw [← hK]; exact o_mulT) ha hb
theorem fe_div (ha : PE X a (sE g W ma)) (hb : PE X b (sE g W mb)) : PE X (.BinOp a .FloorDiv b pos) (sE g W (mOp oDiv ma mb)) := fe_op op_fdivN o_div ha hb
theorem fe_mod (ha : PE X a (sE g W ma)) (hb : PE X b (sE g W mb)) : PE X (.BinOp a .Mod b pos) (sE g W (mOp oMod ma mb)) := fe_op op_modN o_mod ha hb
theorem fe_pow (ha : PE X a (sE g W ma)) (hb : PE X b (sE g W mb)) : PE X (.BinOp a .Pow b pos) (sE g W (mOp oPow ma mb)) := fe_op op_pow o_pow ha hb
theorem fe_shl (ha : PE X a (sE g W ma)) (hb : PE X b (sE g W mb)) : PE X (.BinOp a .LShift b pos) (sE g W (mOp oShl ma mb)) := fe_op op_shl o_shl ha hb
theorem fe_shr (ha : PE X a (sE g W ma)) (hb : PE X b (sE g W mb)) : PE X (.BinOp a .RShift b pos) (sE g W (mOp oShr ma mb)) := fe_op op_shr o_shr ha hb
theorem fe_band (ha : PE X a (sE g W ma)) (hb : PE X b (sE g W mb)) : PE X (.BinOp a .BitAnd b pos) (sE g W (mOp oAnd ma mb)) := fe_op op_and o_and ha hb
theorem fe_bor (ha : PE X a (sE g W ma)) (hb : PE X b (sE g W mb)) : PE X (.BinOp a .BitOr b pos) (sE g W (mOp oOr ma mb)) := fe_op op_or o_or ha hb
theorem fe_bxor (ha : PE X a (sE g W ma)) (hb : PE X b (sE g W mb)) : PE X (.BinOp a .BitXor b pos) (sE g W (mOp oXor ma mb)) := fe_op op_xor o_xor ha hb
theorem fe_neg (ha : PE X a (sE g W ma)) : PE X (.UnaryOp .USub a pos) (sE g W (mUn oNeg ma)) := fe_un un_neg o_neg ha
theorem fe_inv (ha : PE X a (sE g W ma)) : PE X (.UnaryOp .Invert a pos) (sE g W (mUn oInv ma)) := fe_un un_inv o_inv ha
theorem fe_lt (ha : PE X a (sE g W ma)) (hb : PE X b (sE g W mb)) : PE X (.Compare a [.Lt] [b] pos) (sE g W (mOp oLt ma mb)) := fe_cmp op_lt o_lt (nomark _) ha hb
theorem ft_lt (ha : PE X a (sE g W ma)) (hb : PE X b (sE g W mb)) : PT X (.Compare a [.Lt] [b] pos) (sT g W (mTst asB (mOp oLt ma mb))) := ft_cmp op_lt o_lt (nomark _) ha hb
theorem fe_le (ha : PE X a (sE g W ma)) (hb : PE X b (sE g W mb)) : PE X (.Compare a [.LtE] [b] pos) (sE g W (mOp oLe ma mb)) := fe_cmp op_le o_le (nomark _) ha hb
theorem ft_le (ha : PE X a (sE g W ma)) (hb : PE X b (sE g W mb)) : PT X (.Compare a [.LtE] [b] pos) (sT g W (mTst asB (mOp oLe ma mb))) := ft_cmp op_le o_le (nomark _) ha hb
theorem fe_gt (ha : PE X a (sE g W ma)) (hb : PE X b (sE g W mb)) : PE X (.Compare a [.Gt] [b] pos) (sE g W (mOp oGt ma mb)) := fe_cmp op_gt o_gt (nomark _) ha hb
theorem ft_gt (ha : PE X a (sE g W ma)) (hb : PE X b (sE g W mb)) : PT X (.Compare a [.Gt] [b] pos) (sT g W (mTst asB (mOp oGt ma mb))) := ft_cmp op_gt o_gt (nomark _) ha hb
theorem fe_ge (ha : PE X a (sE g W ma)) (hb : PE X b (sE g W mb)) : PE X (.Compare a [.GtE] [b] pos) (sE g W (mOp oGe ma mb)) := fe_cmp op_ge o_ge (nomark _) ha hb
theorem ft_ge (ha : PE X a (sE g W ma)) (hb : PE X b (sE g W mb)) : PT X (.Compare a [.GtE] [b] pos) (sT g W (mTst asB (mOp oGe ma mb))) := ft_cmp op_ge o_ge (nomark _) ha hb
theorem fe_eq (hr : Room k X.A) (ha : PE X a (sE g W ma)) (hb : PE X b (sE g W mb)) (hK : g.K = X.K := by rfl) : PE X (.Compare a [.Eq] [b] pos) (sE g W (mOp oEq ma mb)) := fe_cmp (op_eqD (u64 hr)) (by rw [← hK]; exact o_eq) (nomark _) ha hb
theorem ft_eq (hr : Room k X.A) (ha : PE X a (sE g W ma)) (hb : PE X b (sE g W mb)) (hK : g.K = X.K := by rfl) : PT X (.Compare a [.Eq] [b] pos) (sT g W (mTst asB (mOp oEq ma mb))) := ft_cmp (op_eqD (u64 hr)) (by rw [← hK]; exact o_eq) (nomark _) ha hb
theorem fe_ne (hr : Room k X.A) (ha : PE X a (sE g W ma)) (hb : PE X b (sE g W mb)) (hK : g.K = X.K := by rfl) : PE X (.Compare a [.NotEq] [b] pos) (sE g W (mOp oNe ma mb)) := fe_cmp (op_neD (u64 hr)) (by rw [← hK]; exact o_ne) (nomark _) ha hb
theorem ft_ne (hr : Room k X.A) (ha : PE X a (sE g W ma)) (hb : PE X b (sE g W mb)) (hK : g.K = X.K := by rfl) : PT X (.Compare a [.NotEq] [b] pos) (sT g W (mTst asB (mOp oNe ma mb))) := ft_cmp (op_neD (u64 hr)) (by rw [← hK]; exact o_ne) (nomark _) ha hb
theorem fe_isN (ha : PE X a (sE g W ma)) (hb : PE X b (sE g W mb)) : PE X (.Compare a [.Is] [b] pos) (sE g W (mOp oIsN ma mb)) := fe_cmp op_isN o_isN (nomark _) ha hb
theorem ft_isN (ha : PE X a (sE g W ma)) (hb : PE X b (sE g W mb)) : PT X (.Compare a [.Is] [b] pos) (sT g W (mTst asB (mOp oIsN ma mb))) := ft_cmp op_isN o_isN (nomark _) ha hb
theorem fe_notN (ha : PE X a (sE g W ma)) (hb : PE X b (sE g W mb)) : PE X (.Compare a [.IsNot] [b] pos) (sE g W (mOp oNotN ma mb)) := fe_cmp op_notN o_notN (nomark _) ha hb
theorem ft_notN (ha : PE X a (sE g W ma)) (hb : PE X b (sE g W mb)) : PT X (.Compare a [.IsNot] [b] pos) (sT g W (mTst asB (mOp oNotN ma mb))) := ft_cmp op_notN o_notN (nomark _) ha hb
theorem fe_isB (ha : PE X a (sE g W ma)) (hb : PE X b (sE g W mb)) : PE X (.Compare a [.Is] [b] pos) (sE g W (mOp oIsB ma mb)) := fe_cmp op_is_bl o_isB (nomark _) ha hb
theorem ft_isB (ha : PE X a (sE g W ma)) (hb : PE X b (sE g W mb)) : PT X (.Compare a [.Is] [b] pos) (sT g W (mTst asB (mOp oIsB ma mb))) := ft_cmp op_is_bl o_isB (nomark _) ha hb
theorem fe_notB (ha : PE X a (sE g W ma)) (hb : PE X b (sE g W mb)) : PE X (.Compare a [.IsNot] [b] pos) (sE g W (mOp oNotB ma mb)) := fe_cmp op_isnot_bl o_notB (nomark _) ha hb
theorem ft_notB (ha : PE X a (sE g W ma)) (hb : PE X b (sE g W mb)) : PT X (.Compare a [.IsNot] [b] pos) (sT g W (mTst asB (mOp oNotB ma mb))) := ft_cmp op_isnot_bl o_notB (nomark _) ha hb
theorem fe_in (hr : Room k X.A) (ha : PE X a (sE g W ma)) (hb : PE X b (sE g W mb)) (hK : g.K = X.K := by rfl) (hm : behindInMarks .In b = false := by with_unfolding_all rfl) : PE X (.Compare a [.In] [b] pos) (sE g W (mOp oIn ma mb)) := fe_cmp (op_in3 (u65 hr)) (by rw [← hK]; exact o_in) hm ha hb
theorem ft_in (hr : Room k X.A) (ha : PE X a (sE g W ma)) (hb : PE X b (sE g W mb)) (hK : g.K = X.K := by rfl) (hm : behindInMarks .In b = false := by with_unfolding_all rfl) : PT X (.Compare a [.In] [b] pos) (sT g W (mTst asB (mOp oIn ma mb))) := ft_cmp (op_in3 (u65 hr)) (by rw [← hK]; exact o_in) hm ha hb
theorem fe_nin (hr : Room k X.A) (ha : PE X a (sE g W ma)) (hb : PE X b (sE g W mb)) (hK : g.K = X.K := by rfl) (hm : behindInMarks .NotIn b = false := by with_unfolding_all rfl) : PE X (.Compare a [.NotIn] [b] pos) (sE g W (mOp oNotIn ma mb)) := fe_cmp (op_notIn3 (u65 hr)) (by rw [← hK]; exact o_notIn) hm ha hb
theorem ft_nin (hr : Room k X.A) (ha : PE X a (sE g W ma)) (hb : PE X b (sE g W mb)) (hK : g.K = X.K := by rfl) (hm : behindInMarks .NotIn b = false := by with_unfolding_all rfl) : PT X (.Compare a [.NotIn] [b] pos) (sT g W (mTst asB (mOp oNotIn ma mb))) := ft_cmp (op_notIn3 (u65 hr)) (by rw [← hK]; exact o_notIn) hm ha hb
theorem ft_tru (h : PE X e (sE g W m)) (hK : g.K = X.K := by rfl) (he : ∀ whole, isTrue e X.env whole = (do let v ← whole; standAt e.pos; holding [v] (truthy v)) := by intro _; rfl) : PT X e (sT g W (mTst tru m)) := ft_val hK h he
theorem fts_nil : PTs X [] (sT g W0 mYes) := PTs.imp0 pts_nil fun _ _ _ h => by
  obtain ⟨ρ, F, hid, r, p⟩ := h
  exact Post.endT (S0 := []) p r Ext.refl
where
  PTs.imp0 {ifs : List Expr} {t t' : TT} (h : PTs X ifs t) (i : ∀ σ H Q, t' σ H Q → t σ H Q) : PTs X ifs t' := ⟨fun pins s σ H Q I hq => h.run pins s σ H Q I (i σ H Q hq)⟩
theorem fts_one {t : Mb} (h : PT X c (sT g W0 t)) : PTs X [c] (sT g W0 t) := pts_one h
theorem fs_setIx2 {o1 i1 k1 v : Expr} {j i l : Nat} {mv : M} {p1 p2 : Pos} (hv : PE X v (sE g W mv)) (ho : PE X o1 (tVar j)) (hi : PE X i1 (tVar i)) (hk : PE X k1 (tVar l)) (hK : g.K = X.K := by rfl) (hs1 : PlainIx i1 := by exact fun _ _ => rfl)
    (ha : ∀ w, assign (.Subscript (.Subscript o1 i1 p1) k1 p2) X.env w = (do
      let ov ← holding [w] (eval (.Subscript o1 i1 p1) X.env)
      let iv ← holding [w, ov] (eval k1 X.env)
      standAt p2
      holding [w, ov, iv] (setItem ov iv w)
      release [w, ov, iv] []) := by intro _; rfl)
    (hs : swapsWithSole [.Subscript (.Subscript o1 i1 p1) k1 p2] v pos.line X.env = pure false := by rfl) (hw : swappedStores [.Subscript (.Subscript o1 i1 p1) k1 p2] v X.env = pure none := by rfl)
    (h1 : (assignEach [.Subscript (.Subscript o1 i1 p1) k1 p2] X.env).map (·.2) = [assign (.Subscript (.Subscript o1 i1 p1) k1 p2) X.env] := by rfl) :
    PS X (.Assign [.Subscript (.Subscript o1 i1 p1) k1 p2] v pos) (sS g W keep (mSetIx2 j i l mv)) := PS.imp (ps_asg hv (pg_sub (pe_ix ix_list ho hi hs1) hk set_list ha) hs hw h1) fun _ _ _ q => by
  rw [← hK]
  exact sS_setIx2 q
/-- name = [..] where the store is the comprehension's own -/
theorem fs_setLc {elt tg iter : Expr} {ifs : List Expr} {scope : Scope} {own : List (Str × Nat)} {spos : Pos} {t : Tg} {mi : Mi} {c : Mb} {m : M} (i : Nat) (hN : X.N.Nodup) (hi : PI X tg iter (sI g W mi)) (ok : BlkOk X.N X.env.scope scope own)
    (hg : ∀ (s : Shared) (H : Hp) (C : Addr) (cl : List (Str × Addr)) (fp : List Addr), PG (X.blk s H scope (compEnvC scope cl C X.env) fp) tg (gOf g.K t)) (ht : ∀ (s : Shared) (H : Hp) (C : Addr) (cl : List (Str × Addr)) (fp : List Addr), PTs (X.blk s H scope (compEnvC scope cl C X.env) fp) ifs (sT g W0 c))
    (he : ∀ (s : Shared) (H : Hp) (C : Addr) (cl : List (Str × Addr)) (fp : List Addr), PE (X.blk s H scope (compEnvC scope cl C X.env) fp) elt (sE g W0 m)) (hk : i ∉ keep := by decide) (hv : ∀ i ∈ t.slots, i ∈ own.map (·.2) := by decide) (hc : X.calm = true := by rfl) (hs : ∀ x, foldedSetIterable iter X.env x = pure x := by intro _; rfl)
    (hy : X.N[i]? = some y := by rfl) (hyl : X.env.scope.names.lookup y = some .local := by rfl) (hsw : swapsWith (.ListComp elt [⟨tg, iter, ifs, 0⟩] scope pos) (some (.Name y py)) spos.line X.env = pure true := by rfl) :
    PS X (.Assign [.Name y py] (.ListComp elt [⟨tg, iter, ifs, 0⟩] scope pos) spos) (sS g W keep (mSet i (mLc mi t (own.map (·.2)) c m))) := PS.imp (ps_setLc hc hN hy hyl hsw hi ok hg ht he hs) fun D σ H q => by
  have q2 := sS_set hk q
  exact sE_lc hv q2
/-- .. given up as data -/
theorem fs_setLcF {elt tg iter : Expr} {ifs : List Expr} {scope : Scope} {own : List (Str × Nat)} {spos : Pos} {t : Tg} {mi : Mi} {c : Mb} {m : M} (i : Nat) (hN : X.N.Nodup) (hi : PI X tg iter (sI g W mi)) (ok : BlkOk X.N X.env.scope scope own)
    (hg : ∀ (s : Shared) (H : Hp) (C : Addr) (cl : List (Str × Addr)) (fp : List Addr), PG (X.blk s H scope (compEnvC scope cl C X.env) fp) tg (gOf g.K t)) (ht : ∀ (s : Shared) (H : Hp) (C : Addr) (cl : List (Str × Addr)) (fp : List Addr), PTs (X.blk s H scope (compEnvC scope cl C X.env) fp) ifs (sT g W0 c))
    (he : ∀ (s : Shared) (H : Hp) (C : Addr) (cl : List (Str × Addr)) (fp : List Addr), PE (X.blk s H scope (compEnvC scope cl C X.env) fp) elt (sE g W0 m)) (hk : i ∉ keep := by decide) (hv : ∀ i ∈ t.slots, i ∈ own.map (·.2) := by decide) (hc : X.calm = true := by rfl) (hs : ∀ x, foldedSetIterable iter X.env x = pure x := by intro _; rfl)
    (hy : X.N[i]? = some y := by rfl) (hyl : X.env.scope.names.lookup y = some .local := by rfl) (hsw : swapsWith (.ListComp elt [⟨tg, iter, ifs, 0⟩] scope pos) (some (.Name y py)) spos.line X.env = pure true := by rfl) :
    PS X (.Assign [.Name y py] (.ListComp elt [⟨tg, iter, ifs, 0⟩] scope pos) spos) (sS g W keep (mSet i (mFrz (mLc mi t (own.map (·.2)) c m)))) := PS.imp (ps_setLc hc hN hy hyl hsw hi ok hg ht he hs) fun D σ H q => by
  have q2 := sS_set hk q
  exact sE_lc hv (sE_frz q2)
/-! ### the parts of a comprehension, one clause -/
end
end FL
namespace FL
open PySem PySem.Spec PyProof.Rows L2
/-- a def of the program as it may be called -/
structure Cal (P : Program) (w : World) (K : PySem.W.Frag) (mg : Str → Option Value) (base : Heap) (g : Gd) (k : Nat) (x : Str) (ps : List Str) (io : List Nat) (n : Nat) (fn : Fn) : Prop where
  ex : ∃ f fd, FnOk P w K mg base CX0 k f fd ps (spF g io n fn) ∧ mg x = some (.ref f) ∧ PySem.W.keepIn K (.ref f) = true ∧ Binds K fd ps []
/-- .. as the top has left it -/
def Dfn (K : PySem.W.Frag) (x qual : Str) (st : Stmt) : Prop := ∃ f, PySem.W.nsIn K mainGlobals x = some (some (.ref f)) ∧ ∃ (oc kV dc pm cd ct : Value) (od an : Option Addr) (sl : Array (Option Value)),
  K.lookup f = some ⟨oc, od, .func (PySem.W.fnOf x qual (defArgs st) (defBody st) (defScope st) .none kV dc pm an cd ct), sl⟩ ∧ PySem.W.codeIn K cd qual = true ∧ PySem.W.keepIn K (.ref f) = true
theorem Dfn.mk {K : PySem.W.Frag} {x qual : Str} {st : Stmt} {f : Addr} {oc kV dc pm cd ct : Value} {od an : Option Addr} {sl : Array (Option Value)} (a : PySem.W.nsIn K mainGlobals x = some (some (.ref f)))
    (l : K.lookup f = some ⟨oc, od, .func (PySem.W.fnOf x qual (defArgs st) (defBody st) (defScope st) .none kV dc pm an cd ct), sl⟩) (c : PySem.W.codeIn K cd qual = true) (k : PySem.W.keepIn K (.ref f) = true) : Dfn K x qual st :=
  ⟨f, a, oc, kV, dc, pm, cd, ct, od, an, sl, l, c, k⟩
/-- how a list of so many values is bound -/
def BindsBy (x qual : Str) (st : Stmt) (ps : List Str) : Prop := ∀ (kV doc pm : Value) (an : Option Addr) (cdv ct : Value) (us : List Value), us.length = ps.length → bindArgs (PySem.W.fnOf x qual (defArgs st) (defBody st) (defScope st) .none kV doc pm an cdv ct) ⟨us, []⟩ = pure (ps.zip us)
section
variable {P : Program} {w : World} {K : PySem.W.Frag} {mg : Str → Option Value} {base : Heap} {g : Gd} {k : Nat} {x qual : Str} {st : Stmt} {ps : List Str} {io : List Nat} {n : Nat} {fn : Fn} {h : Heap}
theorem Cal.of (X : K.In h) (G : h.Ns mainGlobals mg) (d : Dfn K x qual st) (hb : BindsBy x qual st ps) (ok : ∀ f fd, Fun K x qual st f fd → FnOk P w K mg base CX0 k f fd ps (spF g io n fn)) : Cal P w K mg base g k x ps io n fn := by
  obtain ⟨f, a, oc, kV, dc, pm, cd, ct, od, an, sl, l, c, kk⟩ := d
  have F := fun_mk l c kk
  exact ⟨f, _, ok f _ F, PySem.W.mg_of X G a, kk, F.binds hb⟩
theorem fe_calC {X : Cx} {E : XK} {e : Expr} {p pos : Pos} {es : List Expr} {ms : Ms} (C : Cal X.prog X.w X.K X.mg X.base g k x ps io n fn) (hr : Room k X.A)
    (ha : PA X (e :: es) (sA g (WF E) ms)) (hn : ∀ i ∈ io, i < n := by decide) (hg : Gl X x := by rfl) (hdb : (x == ("__debug__" : Str)) = false := by decide) (he : starEach (e :: es) X.env = (false, eval e X.env) :: starEach es X.env := by rfl) (hpl : (backTo pos (starEach es X.env)).any (·.1) = false := by rfl) :
    PE X (.Call (.Name x p) (e :: es) [] pos) (sE g (WF E) (mCall io n fn ms)) := by
  obtain ⟨f, fd, F, hm, hk, hb⟩ := C.ex
  exact fe_call F hr hm hk hb ha hn hg hdb he hpl
end
/-- the fuel of a loop that goes down -/
def natAt (ρ : Env) (i : Nat) : Nat := match ρ[i]? with | some (some (.d (.int k))) => k.toNat | _ => 0
end FL
end
section
set_option Elab.async false
set_option linter.all false
set_option maxRecDepth 100000
set_option autoImplicit false
namespace FL
open PySem PySem.Spec PyProof.Rows L2

/-! ### comprehensions of two clauses: the items data -/
def lcI (tg : Tg) (vs : List Nat) (c : Mb) (e : M) : List PyData → Env → Option (List PyData × Env)
  | [], ρ => some ([], ρ)
  | d :: ds, ρ => match tg.put d ρ with
    | none => none
    | some ρ1 => match c ρ1 with
      | .ok b ρ2 => if b = true then (match e ρ2 with
          | .ok (.o (.d x)) ρ3 => if dataSlots ρ3 vs = true then (match lcI tg vs c e ds (wipeE ρ3 vs) with
              | some (os, ρ4) => some (x :: os, ρ4)
              | none => none) else none
          | _ => none) else if dataSlots ρ2 vs = true then lcI tg vs c e ds (wipeE ρ2 vs) else none
      | _ => none
def lcO (tg : Tg) (vs : List Nat) (c : Mb) (mi1 : Mi) (tg1 : Tg) (vs1 : List Nat) (c1 : Mb) (e : M) : List PyData → Env → Option (List PyData × Env)
  | [], ρ => some ([], ρ)
  | d :: ds, ρ => match tg.put d ρ with
    | none => none
    | some ρ1 => match c ρ1 with
      | .ok b ρ2 => if b = true then (match mi1 ρ2 with
          | .ok ds1 ρ3 => if dataSlots ρ3 vs1 = true then (match lcI tg1 vs1 c1 e ds1 (wipeE ρ3 vs1) with
              | some (xs, ρ4) => if dataSlots ρ4 vs = true then (match lcO tg vs c mi1 tg1 vs1 c1 e ds (wipeE ρ4 vs) with
                | some (ys, ρ5) => some (xs ++ ys, ρ5)
                | none => none) else none
              | none => none) else none
          | _ => none) else if dataSlots ρ2 vs = true then lcO tg vs c mi1 tg1 vs1 c1 e ds (wipeE ρ2 vs) else none
      | _ => none
def mLc2 (mi : Mi) (tg : Tg) (c : Mb) (mi1 : Mi) (tg1 : Tg) (c1 : Mb) (e : M) (vs vs1 : List Nat) : M := fun ρ => (mi ρ).bind fun ds ρ1 => if dataSlots ρ1 vs = true then (match lcO tg vs c mi1 tg1 vs1 c1 e ds (wipeE ρ1 vs) with
  | some (xs, ρ2) => if decide (xs.length ≤ 16777216) = true then .ok (.o (.lst (xs.map .d))) ρ2 else .bad
  | none => .bad) else .bad
section
variable {X : Cx} {g : Gd} {W : XW} {keep : List Nat} {σ σ' σ2 : L2.St} {ρ ρ' : Env} {H H0 H1 H' Ho Ho' : Hp} {F F0 G hid F1 S S' S1 : List Addr} {D : Addr} {acc : List PyData} {vs vs1 : List Nat} {pos py pt p q : Pos}
/-- the list that grows is hidden -/
def LH (g : Gd) (H1 : Hp) (S1 hid : List Addr) (D : Addr) (σ : L2.St) (ρ : Env) (acc : List PyData) (H : Hp) : Prop :=
  ∃ F accV, Rel g H σ ρ F (D :: hid) ∧ Ext hid H1 S1 H (F ++ (D :: hid)) ∧ H D = some (.lst accV) ∧ DpAll g.K (off H (F ++ (D :: hid))) accV acc
theorem LH.wipe (h : LH g H1 S1 hid D σ ρ acc H) (d : dataSlots ρ vs = true) : LH g H1 S1 hid D (L2.wipe σ vs) (wipeE ρ vs) acc H := by
  obtain ⟨F, accV, r, x, e, ac⟩ := h
  exact ⟨F, accV, r.wipe d, x, e, ac⟩
theorem LH.unwipe (h : LH g H1 S1 hid D (L2.wipe σ vs) (wipeE ρ vs) acc H) : LH g H1 S1 hid D σ (wipeE ρ vs) acc H := by
  obtain ⟨F, accV, r, x, e, ac⟩ := h
  exact ⟨F, accV, r.unwipe, x, e, ac⟩
theorem LH.trans {H4 : Hp} {S4 : List Addr} (h : LH g H4 S4 hid D σ ρ acc H) (x0 : Ext hid H1 S1 H4 S4) : LH g H1 S1 hid D σ ρ acc H := by
  obtain ⟨F, accV, r, x, e, ac⟩ := h
  exact ⟨F, accV, r, x0.trans x, e, ac⟩
/-- one item more -/
theorem LH.more {w : V} {x : PyData} {F7 : List Addr} {H7 : Hp} {accV : List V} (r7 : Rel g H7 σ ρ' F7 (D :: hid)) (xx : Ext hid H1 S1 H7 (F7 ++ (D :: hid))) (hD : H7 D = some (.lst accV)) (ac : DpAll g.K (off H7 (F7 ++ (D :: hid))) accV acc)
    (d : Dp g.K (off H7 (F7 ++ (D :: hid))) w x) : LH g H1 S1 hid D σ ρ' (acc ++ [x]) (upd H7 D (.lst (accV ++ [w]))) := by
  have mD : D ∈ F7 ++ (D :: hid) := List.mem_append_right _ List.mem_cons_self
  have eo : off (upd H7 D (.lst (accV ++ [w]))) (F7 ++ (D :: hid)) = off H7 (F7 ++ (D :: hid)) := off_upd mD
  obtain ⟨n1, n2, n3⟩ := List.nodup_append.mp r7.nd
  obtain ⟨l1, l2⟩ := List.nodup_cons.mp n2
  refine ⟨F7, accV ++ [w], ⟨?_, r7.nd, fun a m => ?_⟩, ⟨?_, fun a m => ?_⟩, upd_same, ?_⟩
  · rw [eo]
    exact renv_mono (Same.refl _) r7.env fun a m => upd_ne fun z => n3 a m D List.mem_cons_self z
  · by_cases z : a = D
    · rw [z, upd_same]; exact fun q => by cases q
    · rw [upd_ne z]; exact r7.tr a m
  · rw [eo]; exact xx.op
  · rw [upd_ne fun z => l1 (by rw [← z]; exact m)]; exact xx.hd a m
  · rw [eo]
    exact DpAll.append ac (.cons d .nil)
theorem lcI_ok {tg1 : Tg} {c1 : Mb} {e : M} {J1 : It} {ds1 xs : List PyData} {H4 : Hp} {S4 : List Addr} {ρ3 ρ4 : Env} {Nx : Hp → Prop} (hv1 : ∀ i ∈ tg1.slots, i ∈ vs1) (yl : Yl g.K J1 ds1 (off H4 S4) (off H4 S4)) (lh : LH g H4 S4 hid D (L2.wipe σ2 vs1) (wipeE ρ3 vs1) acc H4)
    (el : lcI tg1 vs1 c1 e ds1 (wipeE ρ3 vs1) = some (xs, ρ4)) (hl : (acc ++ xs).length ≤ 16777216) (hN : ∀ H ρ0, ρ4 = wipeE ρ0 vs1 → LH g H4 S4 hid D (L2.wipe σ2 vs1) ρ4 (acc ++ xs) H → Nx H) :
    ∃ W1 : Nat → Nat → Hp → Prop, (∃ m, W1 0 m H4) ∧ ∀ j k H, W1 j k H → (J1.stop j H ∧ Nx H) ∨ (J1.go j H ∧ ∃ Nx1 : Hp → Prop, (∀ H', Nx1 H' → ∃ k', k' < k ∧ W1 (j + 1) k' H') ∧ ∀ x H', J1.yld j H x H' → gOf g.K tg1 x (L2.wipe σ2 vs1) H' fun σ3 H5 => L2.wipe σ3 vs1 = L2.wipe σ2 vs1 ∧ sT g W0 c1 σ3 H5 fun b H6 =>
      if b = true then sE g W0 e σ3 H6 fun y H7 => ∃ acc, H7 D = some (.lst acc) ∧ acc.length < sizeLine ∧ Nx1 (upd H7 D (.lst (acc ++ [y]))) else Nx1 H6) := by
  refine ⟨fun i m H3 => m = ds1.length - i ∧ i ≤ ds1.length ∧ ∃ ρ5 acc5 rest, LH g H4 S4 hid D (L2.wipe σ2 vs1) (wipeE ρ5 vs1) acc5 H3 ∧ lcI tg1 vs1 c1 e (ds1.drop i) (wipeE ρ5 vs1) = some (rest, ρ4) ∧ acc5 ++ rest = acc ++ xs,
    ⟨ds1.length, by simp, Nat.zero_le _, ρ3, acc, xs, lh, by rw [List.drop_zero]; exact el, rfl⟩, ?_⟩
  rintro i m H3 ⟨rfl, hi, ρ5, acc5, rest, ⟨F3, accV, r3, x3, hD3, ac3⟩, el3, et⟩
  have s3 : Same (off H4 S4) H3 := x3.op.trans off_le
  by_cases hlt : i < ds1.length
  · refine .inr ⟨yl.go i H3 hlt s3, fun H4' => ∃ ρ5 acc5 rest, LH g H4 S4 hid D (L2.wipe σ2 vs1) (wipeE ρ5 vs1) acc5 H4' ∧ lcI tg1 vs1 c1 e (ds1.drop (i + 1)) (wipeE ρ5 vs1) = some (rest, ρ4) ∧ acc5 ++ rest = acc ++ xs,
      fun H' h' => ⟨ds1.length - (i + 1), by omega, rfl, hlt, h'⟩, fun x H5 hy => ?_⟩
    have hd : ds1[i]? = some ds1[i] := by simp [hlt]
    obtain ⟨r5, x5, d5, ss5⟩ := Yl.at yl hd s3 x3.op hy r3
    rw [List.drop_eq_getElem_cons hlt] at el3
    unfold lcI at el3
    cases e1 : tg1.put ds1[i] (wipeE ρ5 vs1) with
    | none => simp only [e1] at el3; cases el3
    | some ρ6 =>
      simp only [e1] at el3
      refine gOf_ok (keep := []) e1 d5 r5 (fun _ _ z => by cases z) fun σ6 F6 r6 sub6 _ w6 => ?_
      have hw6 : L2.wipe σ6 vs1 = L2.wipe σ2 vs1 := (w6 vs1 hv1).trans (sE_lc.wipe_wipe σ2 vs1)
      refine ⟨hw6, ?_⟩
      cases e2 : c1 ρ6 with
      | exc _ _ => simp only [e2] at el3; cases el3
      | bad => simp only [e2] at el3; cases el3
      | ok b ρ7 =>
        simp only [e2] at el3
        refine ⟨ρ6, F6, D :: hid, r6, ?_⟩
        rw [e2]
        refine post_of fun H7 F7 G7 b' r7 x7 v7 => ?_
        obtain ⟨rfl, rfl⟩ := v7
        have r7 : Rel g H7 σ6 ρ7 F7 (D :: hid) := r7
        have x7 : Ext (D :: hid) H5 (F6 ++ (D :: hid)) H7 (F7 ++ (D :: hid)) := x7
        have x57 : Ext (D :: hid) H3 (F3 ++ (D :: hid)) H7 (F7 ++ (D :: hid)) := (x5.trans (Ext.sub sub6)).trans x7
        have hD7 : H7 D = some (.lst accV) := (x57.hd D List.mem_cons_self).trans hD3
        have ac7 := dpAll_mono x57.op ac3
        have x37 : Ext hid H4 S4 H7 (F7 ++ (D :: hid)) := x3.trans (x57.less fun a m => List.mem_cons_of_mem _ m)
        cases b' with
        | false =>
          simp only [Bool.false_eq_true, if_false] at el3 ⊢
          split at el3
          · rename_i hd7
            have rw7 := r7.wipe hd7
            rw [hw6] at rw7
            exact ⟨ρ7, acc5, rest, ⟨F7, accV, rw7, x37, hD7, ac7⟩, el3, et⟩
          · cases el3
        | true =>
          simp only [if_true] at el3 ⊢
          split at el3
          · rename_i y ρ8 e3
            split at el3
            · rename_i hd8
              cases e5 : lcI tg1 vs1 c1 e (ds1.drop (i + 1)) (wipeE ρ8 vs1) with
              | none => simp only [e5] at el3; cases el3
              | some q =>
                obtain ⟨os', ρ9⟩ := q
                simp only [e5] at el3
                cases el3
                refine ⟨ρ7, F7, D :: hid, r7, ?_⟩
                rw [e3]
                refine post_of fun H8 F8 G8 w r8 x8 v8 => ?_
                have v8 : RO g H8 (off H8 (F8 ++ (G8 ++ (D :: hid)))) w (.d y) G8 := v8
                cases v8 with
                | d d8 =>
                  have r8 : Rel g H8 σ6 ρ8 F8 (D :: hid) := r8
                  have x8 : Ext (D :: hid) H7 (F7 ++ (D :: hid)) H8 (F8 ++ (D :: hid)) := x8
                  have d8 : Dp g.K (off H8 (F8 ++ (D :: hid))) w y := d8
                  have hD8 : H8 D = some (.lst accV) := (x8.hd D List.mem_cons_self).trans hD7
                  have ac8 := dpAll_mono x8.op ac7
                  have x38 : Ext hid H4 S4 H8 (F8 ++ (D :: hid)) := x37.trans (x8.less fun a m => List.mem_cons_of_mem _ m)
                  have rw8 := r8.wipe hd8
                  rw [hw6] at rw8
                  have hll : accV.length < sizeLine := by
                    rw [line_eq, DpAll.length ac8]
                    have h1 := congrArg List.length et
                    rw [List.length_append, List.length_append, List.length_cons] at h1
                    rw [List.length_append] at hl
                    omega
                  exact ⟨accV, hD8, hll, ρ8, acc5 ++ [y], os', LH.more rw8 x38 hD8 ac8 d8, e5, by rw [List.append_assoc]; exact et⟩
            · cases el3
          · cases el3
  · have ei : i = ds1.length := by omega
    subst ei
    rw [List.drop_length] at el3
    cases el3
    rw [List.append_nil] at et
    subst et
    exact .inl ⟨yl.stop H3 s3, hN H3 _ rfl ⟨F3, accV, r3, x3, hD3, ac3⟩⟩
theorem sE_lc2 {mi mi1 : Mi} {tg tg1 : Tg} {c c1 : Mb} {e : M} {Q : V → Hp → Prop} (hv : ∀ i ∈ tg.slots, i ∈ vs) (hv1 : ∀ i ∈ tg1.slots, i ∈ vs1) (h : sE g W (mLc2 mi tg c mi1 tg1 c1 e vs vs1) σ H Q) :
    tLc2 (sI g W mi) (gOf g.K tg) (sT g W0 c) (sI g W0 mi1) (gOf g.K tg1) (sT g W0 c1) (sE g W0 e) vs vs1 σ H Q := by
  obtain ⟨ρ, F, hid, r, p⟩ := h
  refine ⟨ρ, F, hid, r, Post.bind (G := []) Ext.refl p fun items ρ1 H1 F1 G1 J r1 x1 v1 p1 => ?_⟩
  obtain ⟨rfl, yl⟩ := v1
  have r1 : Rel g H1 σ ρ1 F1 hid := r1
  have x1 : Ext hid H (F ++ hid) H1 (F1 ++ hid) := x1
  have yl : Yl g.K J items (off H1 (F1 ++ hid)) (off H1 (F1 ++ hid)) := yl
  split at p1
  · rename_i hds
    split at p1
    · rename_i total ρ9 elc
      split at p1
      · rename_i hlen
        have hlen := of_decide_eq_true hlen
        intro D hD
        have nD : D ∉ F1 ++ hid := r1.fresh hD
        have start : LH g H1 (F1 ++ hid) hid D σ ρ1 [] (upd H1 D (.lst [])) := by
          refine ⟨F1, [], ?_, ?_, upd_same, .nil⟩
          · have pm : (D :: (F1 ++ hid)).Perm (F1 ++ (D :: hid)) := List.perm_middle.symm
            refine Rel.congrF (S := D :: (F1 ++ hid)) ?_ (List.nodup_cons.mpr ⟨nD, r1.nd⟩) (fun a m => ?_) pm
            · rw [off_new hD]
              exact renv_mono (Same.refl _) r1.env fun a m => upd_ne fun z => nD (z ▸ List.mem_append_left _ m)
            · rcases List.mem_cons.mp m with z | z
              · rw [z, upd_same]; exact fun q => by cases q
              · rw [upd_ne fun q => nD (by rw [← q]; exact z)]; exact r1.tr a z
          · have x := Ext.new (S := F1 ++ hid) (o := .lst []) hD (r1.hidT)
            exact x.trans (Ext.sub fun a m => by
              rcases List.mem_append.mp m with z | z
              · exact List.mem_cons_of_mem _ (List.mem_append_left _ z)
              · rcases List.mem_cons.mp z with z | z
                · rw [z]; exact List.mem_cons_self
                · exact List.mem_cons_of_mem _ (List.mem_append_right _ z))
        refine ⟨fun i m H3 => m = items.length - i ∧ i ≤ items.length ∧ ∃ ρ3 acc rest, LH g H1 (F1 ++ hid) hid D (L2.wipe σ vs) (wipeE ρ3 vs) acc H3 ∧ lcO tg vs c mi1 tg1 vs1 c1 e (items.drop i) (wipeE ρ3 vs) = some (rest, ρ9) ∧ acc ++ rest = total,
          ⟨items.length, by simp, Nat.zero_le _, ρ1, [], total, start.wipe hds, by rw [List.drop_zero]; exact elc, rfl⟩, ?_⟩
        rintro i m H3 ⟨rfl, hi, ρ3, acc, rest, ⟨F3, accV, r3, x3, hD3, ac3⟩, el3, et⟩
        have s3 : Same (off H1 (F1 ++ hid)) H3 := x3.op.trans off_le
        by_cases hlt : i < items.length
        · refine .inr ⟨yl.go i H3 hlt s3, fun H4 => ∃ ρ4 acc rest, LH g H1 (F1 ++ hid) hid D (L2.wipe σ vs) (wipeE ρ4 vs) acc H4 ∧ lcO tg vs c mi1 tg1 vs1 c1 e (items.drop (i + 1)) (wipeE ρ4 vs) = some (rest, ρ9) ∧ acc ++ rest = total,
            fun H4 h4 => ⟨items.length - (i + 1), by omega, rfl, hlt, h4⟩, fun x H5 hy => ?_⟩
          have hd : items[i]? = some items[i] := by simp [hlt]
          obtain ⟨r5, x5, d5, ss5⟩ := Yl.at yl hd s3 x3.op hy r3
          rw [List.drop_eq_getElem_cons hlt] at el3
          unfold lcO at el3
          cases e1 : tg.put items[i] (wipeE ρ3 vs) with
          | none => simp only [e1] at el3; cases el3
          | some ρ6 =>
            simp only [e1] at el3
            refine gOf_ok (keep := []) e1 d5 r5 (fun _ _ z => by cases z) fun σ6 F6 r6 sub6 _ w6 => ?_
            have hw6 : L2.wipe σ6 vs = L2.wipe σ vs := (w6 vs hv).trans (sE_lc.wipe_wipe σ vs)
            refine ⟨hw6, ?_⟩
            cases e2 : c ρ6 with
            | exc _ _ => simp only [e2] at el3; cases el3
            | bad => simp only [e2] at el3; cases el3
            | ok b ρ7 =>
              simp only [e2] at el3
              refine ⟨ρ6, F6, D :: hid, r6, ?_⟩
              rw [e2]
              refine post_of fun H7 F7 G7 b' r7 x7 v7 => ?_
              obtain ⟨rfl, rfl⟩ := v7
              have r7 : Rel g H7 σ6 ρ7 F7 (D :: hid) := r7
              have x7 : Ext (D :: hid) H5 (F6 ++ (D :: hid)) H7 (F7 ++ (D :: hid)) := x7
              have x57 : Ext (D :: hid) H3 (F3 ++ (D :: hid)) H7 (F7 ++ (D :: hid)) := (x5.trans (Ext.sub sub6)).trans x7
              have hD7 : H7 D = some (.lst accV) := (x57.hd D List.mem_cons_self).trans hD3
              have ac7 := dpAll_mono x57.op ac3
              have x37 : Ext hid H1 (F1 ++ hid) H7 (F7 ++ (D :: hid)) := x3.trans (x57.less fun a m => List.mem_cons_of_mem _ m)
              cases b' with
              | false =>
                simp only [Bool.false_eq_true, if_false] at el3 ⊢
                split at el3
                · rename_i hd7
                  have rw7 := r7.wipe hd7
                  rw [hw6] at rw7
                  exact ⟨ρ7, acc, rest, ⟨F7, accV, rw7, x37, hD7, ac7⟩, el3, et⟩
                · cases el3
              | true =>
                simp only [if_true] at el3 ⊢
                split at el3
                · rename_i ds1 ρ8 e3
                  split at el3
                  · rename_i hd8
                    split at el3
                    · rename_i xs ρ10 e4
                      split at el3
                      · rename_i hd10
                        split at el3
                        · rename_i ys ρ11 e5
                          cases el3
                          refine ⟨ρ7, F7, D :: hid, r7, ?_⟩
                          rw [e3]
                          refine post_of fun H8 F8 G8 J1 r8 x8 v8 => ?_
                          obtain ⟨rfl, yl8⟩ := v8
                          have r8 : Rel g H8 σ6 ρ8 F8 (D :: hid) := r8
                          have x8 : Ext (D :: hid) H7 (F7 ++ (D :: hid)) H8 (F8 ++ (D :: hid)) := x8
                          have yl8 : Yl g.K J1 ds1 (off H8 (F8 ++ (D :: hid))) (off H8 (F8 ++ (D :: hid))) := yl8
                          have hD8 : H8 D = some (.lst accV) := (x8.hd D List.mem_cons_self).trans hD7
                          have ac8 := dpAll_mono x8.op ac7
                          have x38 : Ext hid H1 (F1 ++ hid) H8 (F8 ++ (D :: hid)) := x37.trans (x8.less fun a m => List.mem_cons_of_mem _ m)
                          refine lcI_ok (S4 := F8 ++ (D :: hid)) (acc := acc) hv1 yl8 ⟨F8, accV, r8.wipe hd8, Ext.refl, hD8, ac8⟩ e4 ?_ fun H9 ρ0 eρ lh9 => ?_
                          · have h1 := congrArg List.length et
                            rw [List.length_append, List.length_append] at h1
                            rw [List.length_append]
                            omega
                          · subst eρ
                            have lh := (lh9.unwipe.wipe hd10).trans x38
                            rw [hw6] at lh
                            exact ⟨_, acc ++ xs, ys, lh, e5, by rw [List.append_assoc]; exact et⟩
                        · cases el3
                      · cases el3
                    · cases el3
                  · cases el3
                · cases el3
        · have ei : i = items.length := by omega
          subst ei
          rw [List.drop_length] at el3
          cases el3
          rw [List.append_nil] at et
          subst et
          exact .inl ⟨yl.stop H3 s3, p1 H3 F3 [D] (.ref D) r3.unwipe (x1.trans x3) (.lst (F := []) hD3 (ros_dat ac3))⟩
      · exact p1.elim
    · exact p1.elim
  · exact p1.elim
theorem fe_lc2 {elt tg iter tg1 iter1 : Expr} {ifs ifs1 : List Expr} {scope : Scope} {own : List (Str × Nat)} {t t1 : Tg} {mi mi1 : Mi} {c c1 : Mb} {m : M} (vs1 : List Nat) (hN : X.N.Nodup) (hi : PI X tg iter (sI g W mi)) (ok : BlkOk X.N X.env.scope scope own)
    (hg : ∀ (s : Shared) (H : Hp) (C : Addr) (cl : List (Str × Addr)) (fp : List Addr), PG (X.blk s H scope (compEnvC scope cl C X.env) fp) tg (gOf g.K t)) (ht : ∀ (s : Shared) (H : Hp) (C : Addr) (cl : List (Str × Addr)) (fp : List Addr), PTs (X.blk s H scope (compEnvC scope cl C X.env) fp) ifs (sT g W0 c))
    (hi1 : ∀ (s : Shared) (H : Hp) (C : Addr) (cl : List (Str × Addr)) (fp : List Addr), PI (X.blk s H scope (compEnvC scope cl C X.env) fp) tg1 iter1 (sI g W0 mi1))
    (hg1 : ∀ (s : Shared) (H : Hp) (C : Addr) (cl : List (Str × Addr)) (fp : List Addr), PG (X.blk s H scope (compEnvC scope cl C X.env) fp) tg1 (gOf g.K t1)) (ht1 : ∀ (s : Shared) (H : Hp) (C : Addr) (cl : List (Str × Addr)) (fp : List Addr), PTs (X.blk s H scope (compEnvC scope cl C X.env) fp) ifs1 (sT g W0 c1))
    (he : ∀ (s : Shared) (H : Hp) (C : Addr) (cl : List (Str × Addr)) (fp : List Addr), PE (X.blk s H scope (compEnvC scope cl C X.env) fp) elt (sE g W0 m)) (hv : ∀ i ∈ t.slots, i ∈ own.map (·.2) := by decide) (hv1 : ∀ i ∈ t1.slots, i ∈ vs1 := by decide) (hvs : ∀ i ∈ vs1, i ∈ own.map (·.2) := by decide) (hc : X.calm = true := by rfl)
    (hs : ∀ x, foldedSetIterable iter X.env x = pure x := by intro _; rfl) (hs1 : ∀ env x, foldedSetIterable iter1 env x = pure x := by intro _ _; rfl) :
    PE X (.ListComp elt [⟨tg, iter, ifs, 0⟩, ⟨tg1, iter1, ifs1, 0⟩] scope pos) (sE g W (mLc2 mi t c mi1 t1 c1 m (own.map (·.2)) vs1)) := PE.imp (pe_lc2 hc hN hi ok hvs hg ht hi1 hg1 ht1 he hs hs1) fun _ _ _ q => sE_lc2 hv hv1 q
end
end FL
end
section
set_option Elab.async false
set_option linter.all false
set_option maxRecDepth 100000
set_option autoImplicit false
namespace FL
open PySem PySem.Spec PyProof.Rows L2
/-- a law that answers True, as its call's contract -/
def AnswersTrue (f : Fn) : Prop := ∀ ns : List Int, ns.length ≤ 63 → ∃ outs, f [.d (.list (ofInts ns))] = .ok (.d (.bool true)) outs
theorem off_nil (H : Hp) : off H [] = H := by
  funext b
  unfold off
  rw [if_neg (List.not_mem_nil)]
theorem law_sp {g : Gd} {f : Fn} (h : AnswersTrue f) {H : Hp} {a : Addr} {ns : List Int} (hl : ns.length ≤ 63) (hS : SqL g.K H a (ns.map V.int)) : spF g [] 1 f [.ref a] H (fun v _ => v = .bl true) fun _ _ _ => False := by
  obtain ⟨outs, e⟩ := h ns hl
  refine ⟨rfl, [.d (.list (ofInts ns))], [], [], ?_, by simp, by simp, ?_⟩
  · rw [show ([] : List Addr) ++ [] = [] from rfl, off_nil]
    exact ROs.cons (F := []) (F' := []) (.d (.lst hS (dp_ofInts ns))) .nil
  · rw [e]
    intro H' F1 F2 v ro _ _ _ _
    cases ro with
    | d d =>
      cases d
      rfl
end FL
end
section
set_option Elab.async false
set_option linter.all false
set_option maxRecDepth 100000
set_option autoImplicit false
namespace FL
open PySem PySem.Spec PyProof.Rows L2

/-! ### any of whole numbers -/
def rAnyZ (K : PySem.W.Frag) (vs : List V) (H : Hp) (Q : VK) : Prop := ∃ (p : Addr) (zs : List Int), vs = [V.ref p] ∧ SqL K H p (zs.map V.int) ∧ Q (.bl (zs.any fun z => z != 0)) H
theorem tr_ints {P : Program} {w : World} {B : Around} : ∀ {us : List Value} {zs : List Int}, IntsAre us zs → ∀ {k : Nat} {u : Value}, us[k]? = some u → ∀ (t : Shared) (R : Bool → Shared → Prop) (E : Value → Shared → Prop), R (zs.getD k 0 != 0) t → wpAny (model P w) B (truthy u) R E t
  | _, _, .cons n tk r, 0, u, e, t, R, E, q => by
    simp at e
    subst e
    exact PySem.P.truthy_int q
  | _, _, .cons n tk r, k + 1, u, e, t, R, E, q => tr_ints r (by simpa using e) t R E (by simpa using q)
theorem any_places : ∀ zs : List Int, (List.range zs.length).any (fun k => zs.getD k 0 != 0) = zs.any fun z => z != 0
  | [] => rfl
  | z :: zs => by
    have ih := any_places zs
    rw [List.length_cons, List.range_succ_eq_map, List.any_cons, List.any_map, List.any_cons, ← ih]
    all_goals rfl
section
variable {X : Cx}
theorem cr_anyZ (calm : X.calm = true) : CallR X (.builtin "any") (rAnyZ X.K) := fun pins s σ H vs us Q I r h => by
  obtain ⟨p, zs, rfl, sq, fin⟩ := h
  obtain ⟨its, rv, pl, _⟩ := I.list sq
  obtain rfl := Vals.ref1 r
  have ia := rv.ints
  refine call_any_walk (iter_any pl.isList fun t et st ne => ?_)
  subst et
  refine ⟨_, _, _, _, _, _, fun k => zs.getD k 0 != 0, rfl, Walks.list (A := X.A.in1) (I.ok.hd calm) _ p ne its.toArray, st, fun k u t2 R E hu hq => tr_ints ia (by simpa using hu) t2 R E hq, fun hp2 tk keep => ?_⟩
  refine ⟨.bl _, H, I.kept fun c ob eo => keep c ob (fun mem => ?_) (Heap.get?_push_of_some _ eo), ?_, fin⟩
  · cases mem with
    | head => exact Nat.lt_irrefl _ (Heap.lt_size eo)
    | tail _ m2 => cases m2
  · show Value.bool _ = Value.bool _
    rw [← any_places zs, List.size_toArray, ia.length]
end
/-- how long the data in slot i is -/
def lenAt (ρ : Env) (i : Nat) : Nat := match ρ[i]? with
  | some (some (.d (.tuple xs))) => xs.length
  | some (some (.d (.list xs))) => xs.length
  | _ => 0
def fAnyZ : List PyData → Option PyData
  | [.list xs] => match intsOf xs with | some zs => some (.bool (zs.any fun z => z != 0)) | none => none
  | _ => none
theorem n_anyZ {K : PySem.W.Frag} : OpN K (rAnyZ K) fAnyZ := fun vs H Ho Q xs z so hv e en => by
  unfold fAnyZ at e
  split at e
  · split at e
    · rename_i zs ez
      cases e
      obtain ⟨v, rfl, v1⟩ := hv.one
      obtain ⟨p, us, rfl, k1, k2⟩ := VW.list v1 so
      obtain ⟨rfl, _⟩ := intsOf_dp k2 ez
      exact ⟨p, zs, rfl, k1, en.1 _ (.bl _)⟩
    · cases e
  · cases e

/-! ### sorted of pairs of whole numbers -/
def prOf : PyData → Option (Nat × Nat)
  | .tuple [.int (.ofNat x), .int (.ofNat y)] => some (x, y)
  | _ => none
def prsOf : List PyData → Option (List (Nat × Nat))
  | [] => some []
  | x :: xs => match prOf x with
    | some p => (match prsOf xs with | some ps => some (p :: ps) | none => none)
    | none => none
def prD (p : Nat × Nat) : PyData := .tuple [.int (p.1 : Int), .int (p.2 : Int)]
def keyP (p : Nat × Nat) : Nat := p.1 * 1000 + p.2
def smallP (p : Nat × Nat) : Bool := Nat.blt p.1 1000 && Nat.blt p.2 1000
def insP (x : Nat × Nat) : List (Nat × Nat) → List (Nat × Nat)
  | [] => [x]
  | y :: ys => if Nat.ble (keyP x) (keyP y) = true then x :: y :: ys else y :: insP x ys
def sortP : List (Nat × Nat) → List (Nat × Nat)
  | [] => []
  | x :: xs => insP x (sortP xs)
def lSortP : List PyData → Option (List PyData)
  | [.list xs] => match prsOf xs with
    | some ps => if (Nat.blt ps.length 64 && ps.all smallP) = true then some ((sortP ps).map prD) else none
    | none => none
  | _ => none
theorem prOf_eq {x : PyData} {p : Nat × Nat} (h : prOf x = some p) : x = prD p := by
  unfold prOf at h
  split at h
  · cases h; rfl
  · cases h
theorem prsOf_eq : ∀ {xs : List PyData} {ps : List (Nat × Nat)}, prsOf xs = some ps → xs = ps.map prD
  | [], _, h => by cases h; rfl
  | x :: xs, ps, h => by
    unfold prsOf at h
    split at h
    · rename_i p ep
      split at h
      · rename_i qs eq
        cases h
        rw [prOf_eq ep, prsOf_eq eq]; rfl
      · cases h
    · cases h
theorem prsOf_map : ∀ ps : List (Nat × Nat), prsOf (ps.map prD) = some ps
  | [] => rfl
  | p :: ps => by
    rw [List.map_cons, prsOf, prsOf_map ps]; rfl
theorem insP_perm (x : Nat × Nat) : ∀ ys : List (Nat × Nat), (insP x ys).Perm (x :: ys)
  | [] => .refl _
  | y :: ys => by
    unfold insP
    split
    · exact .refl _
    · exact ((insP_perm x ys).cons y).trans (.swap x y ys)
theorem sortP_perm : ∀ xs : List (Nat × Nat), (sortP xs).Perm xs
  | [] => .refl _
  | x :: xs => (insP_perm x (sortP xs)).trans ((sortP_perm xs).cons x)
def LeP (p q : Nat × Nat) : Prop := keyP p ≤ keyP q
theorem insP_sorted (x : Nat × Nat) : ∀ {ys : List (Nat × Nat)}, ys.Pairwise LeP → (insP x ys).Pairwise LeP
  | [], _ => List.pairwise_singleton _ _
  | y :: ys, h => by
    obtain ⟨h1, h2⟩ := List.pairwise_cons.mp h
    unfold insP
    split
    · rename_i hx
      have hx : keyP x ≤ keyP y := by simpa using hx
      refine List.pairwise_cons.mpr ⟨fun z m => ?_, h⟩
      rcases List.mem_cons.mp m with m | m
      · rw [m]; exact hx
      · exact Nat.le_trans hx (h1 z m)
    · rename_i hx
      have hx : ¬ keyP x ≤ keyP y := by simpa using hx
      refine List.pairwise_cons.mpr ⟨fun z m => ?_, insP_sorted x h2⟩
      rcases List.mem_cons.mp ((insP_perm x ys).mem_iff.mp m) with m | m
      · rw [m]; exact Nat.le_of_lt (Nat.lt_of_not_le hx)
      · exact h1 z m
theorem sortP_sorted : ∀ xs : List (Nat × Nat), (sortP xs).Pairwise LeP
  | [] => .nil
  | x :: xs => insP_sorted x (sortP_sorted xs)
theorem keyP_inj {p q : Nat × Nat} (hp : smallP p = true) (hq : smallP q = true) (h : keyP p = keyP q) : p = q := by
  unfold smallP at hp hq
  unfold keyP at h
  rw [Bool.and_eq_true, Nat.blt_eq, Nat.blt_eq] at hp hq
  obtain ⟨a, b⟩ := p
  obtain ⟨c, d⟩ := q
  simp only at *
  have : a = c := by omega
  subst this
  have : b = d := by omega
  subst this
  rfl
theorem sortP_uniq : ∀ {xs ys : List (Nat × Nat)}, (∀ p ∈ xs, smallP p = true) → xs.Perm ys → xs.Pairwise LeP → ys.Pairwise LeP → xs = ys
  | [], ys, _, h, _, _ => (List.Perm.eq_nil h.symm).symm
  | x :: xs, [], _, h, _, _ => absurd h.length_eq (by simp)
  | x :: xs, y :: ys, hs, h, h1, h2 => by
    have hx := List.pairwise_cons.mp h1
    have hy := List.pairwise_cons.mp h2
    have e : x = y := by
      have a : keyP x ≤ keyP y := by
        rcases List.mem_cons.mp (h.mem_iff.mpr (List.mem_cons_self (a := y) (l := ys))) with m | m
        · rw [m]; exact Nat.le_refl _
        · exact hx.1 y m
      have b : keyP y ≤ keyP x := by
        rcases List.mem_cons.mp (h.mem_iff.mp (List.mem_cons_self (a := x) (l := xs))) with m | m
        · rw [m]; exact Nat.le_refl _
        · exact hy.1 x m
      exact keyP_inj (hs x List.mem_cons_self) (hs y (h.mem_iff.mpr List.mem_cons_self)) (Nat.le_antisymm a b)
    subst e
    rw [sortP_uniq (fun p m => hs p (List.mem_cons_of_mem _ m)) h.cons_inv hx.2 hy.2]
section
variable {K : PySem.W.Frag} {H Ho : Hp}
/-- rearranged values are rearranged data -/
theorem dpAll_perm {us ws : List V} (h : ws.Perm us) : ∀ {xs : List PyData}, DpAll K H us xs → ∃ zs, zs.Perm xs ∧ DpAll K H ws zs := by
  induction h with
  | nil => intro xs d; cases d; exact ⟨[], .refl _, .nil⟩
  | cons v _ ih =>
    intro xs d
    cases d with
    | cons d1 d2 =>
      obtain ⟨zs, p, q⟩ := ih d2
      exact ⟨_ :: zs, p.cons _, .cons d1 q⟩
  | swap v w l =>
    intro xs d
    cases d with
    | cons d1 d2 =>
      cases d2 with
      | cons d2 d3 => exact ⟨_, .swap _ _ _, .cons d2 (.cons d1 d3)⟩
  | trans _ _ ih1 ih2 =>
    intro xs d
    obtain ⟨zs, p, q⟩ := ih2 d
    obtain ⟨zs', p', q'⟩ := ih1 q
    exact ⟨zs', p'.trans p, q'⟩
theorem tupI_pr {v : V} {p : Nat × Nat} (h : Dp K H v (prD p)) : TupI K H v [(p.1 : Int), (p.2 : Int)] := by
  unfold prD at h
  cases h with
  | tup sq r =>
    cases r with
    | cons r1 r2 =>
      cases r2 with
      | cons r2 r3 =>
        cases r1
        cases r2
        cases r3
        exact ⟨_, rfl, sq⟩
theorem bd_pr {p : Nat × Nat} (h : smallP p = true) : TS.Bd 1000 [(p.1 : Int), (p.2 : Int)] := by
  unfold smallP at h
  rw [Bool.and_eq_true, Nat.blt_eq, Nat.blt_eq] at h
  intro z hz
  rcases List.mem_cons.mp hz with e | m
  · omega
  · rw [List.mem_singleton] at m; omega
theorem code_pr (p : Nat × Nat) : TS.code 1000 [(p.1 : Int), (p.2 : Int)] = (keyP p : Nat) := by
  have e1 : (1000 : Int) ^ 1 = 1000 := by decide
  have e0 : (1000 : Int) ^ 0 = 1 := by decide
  show (p.1 : Int) * 1000 ^ 1 + ((p.2 : Int) * 1000 ^ 0 + 0) = ((p.1 * 1000 + p.2 : Nat) : Int)
  rw [e1, e0]
  omega
def CodeLe (K : PySem.W.Frag) (H : Hp) (x y : V) : Prop := ∀ n m, TupI K H x n → TupI K H y m → TS.code 1000 n ≤ TS.code 1000 m
theorem code_keys : ∀ {ws : List V} {ps : List (Nat × Nat)}, DpAll K H ws (ps.map prD) → ws.Pairwise (CodeLe K H) → ps.Pairwise LeP
  | _, [], _, _ => .nil
  | _, p :: ps, d, h => by
    cases d with
    | cons d1 d2 =>
      obtain ⟨h1, h2⟩ := List.pairwise_cons.mp h
      refine List.pairwise_cons.mpr ⟨fun q hq => ?_, code_keys d2 h2⟩
      obtain ⟨i, hi, e⟩ := List.mem_iff_getElem.mp hq
      obtain ⟨w, hw, dw⟩ := DpAll.getR (i := i) (x := prD q) d2 (by rw [List.getElem?_map, List.getElem?_eq_getElem hi, e]; rfl)
      have := h1 w (List.mem_of_getElem? hw) _ _ (tupI_pr d1) (tupI_pr dw)
      rw [code_pr, code_pr] at this
      show keyP p ≤ keyP q
      omega
def rSortPr (K : PySem.W.Frag) (vs : List V) (H : Hp) (Q : VK) : Prop := L2.rSortU K 2 1000 vs H Q
theorem l_sortP : OpL K (rSortPr K) lSortP := fun vs H Ho Q xs zs so hv e en => by
  unfold lSortP at e
  split at e
  · split at e
    · rename_i ps ep
      split at e
      · rename_i hc
        cases e
        rw [Bool.and_eq_true, Nat.blt_eq, List.all_eq_true] at hc
        obtain ⟨v, rfl, v1⟩ := hv.one
        obtain ⟨a, us, rfl, k1, k2⟩ := VW.list v1 so
        obtain rfl := prsOf_eq ep
        have hl := DpAll.length k2
        rw [List.length_map] at hl
        have k3 := dpAll_mono so k2
        refine ⟨a, us, rfl, k1, by omega, fun v hv => ?_, fun ws p hp hs hn => en ws p hn ?_⟩
        · obtain ⟨i, hi, ei⟩ := List.mem_iff_getElem.mp hv
          obtain ⟨x, hx, dx⟩ := DpAll.get (i := i) (v := v) k3 (by rw [List.getElem?_eq_getElem hi, ei])
          rw [List.getElem?_map] at hx
          obtain ⟨q, hq, rfl⟩ := Option.map_eq_some_iff.mp hx
          exact ⟨_, tupI_pr dx, rfl, bd_pr (hc.2 q (List.mem_of_getElem? hq))⟩
        · obtain ⟨ys, py, dy⟩ := dpAll_perm hp k2
          obtain ⟨qs, rfl, pq⟩ : ∃ qs : List (Nat × Nat), ys = qs.map prD ∧ qs.Perm ps := by
            refine ⟨ys.map fun y => (prOf y).getD (0, 0), ?_, ?_⟩
            · rw [List.map_map]
              conv => lhs; rw [← List.map_id ys]
              refine List.map_congr_left fun y hy => ?_
              obtain ⟨q, _, rfl⟩ := List.mem_map.mp (py.mem_iff.mp hy)
              rfl
            · have := py.map fun y => (prOf y).getD (0, 0)
              rw [List.map_map] at this
              have e2 : (List.map ((fun y => (prOf y).getD (0, 0)) ∘ prD) ps) = ps := by
                conv => rhs; rw [← List.map_id ps]
                exact List.map_congr_left fun q _ => rfl
              rwa [e2] at this
          have srt := code_keys (dpAll_mono so dy) hs
          have := sortP_uniq (fun q hq => hc.2 q (pq.mem_iff.mp hq)) (pq.trans (sortP_perm ps).symm) srt (sortP_sorted ps)
          rw [← this]
          exact dy
      · cases e
    · cases e
  · cases e
end
section
variable {X : Cx} {g : Gd} {W : XW} {p pos : Pos} {a : Expr}
theorem fe_anyZ {ms : Ms} (hm : X.mg "any" = none) (ha : PA X [a] (sA g W ms)) (hc : X.calm = true := by rfl) (hK : g.K = X.K := by rfl) (hg : Gl X "any" := by rfl) (hs : starEach [a] X.env = (false, eval a X.env) :: starEach [] X.env := by rfl) (hpl : (backTo pos (starEach [] X.env)).any (·.1) = false := by rfl) :
    PE X (.Call (.Name "any" p) [a] [] pos) (sE g W (mCallB fAnyZ ms)) := fe_callB (cr_anyZ hc) (by rw [hK]; exact n_anyZ) hg hm PyProof.Rows.boot_any ha (by decide) (by decide) hs hpl
theorem fe_sortP {ms : Ms} (hm : X.mg "sorted" = none) (ha : PA X [a] (sA g W ms)) (hK : g.K = X.K := by rfl) (hg : Gl X "sorted" := by rfl) (hs : starEach [a] X.env = (false, eval a X.env) :: starEach [] X.env := by rfl) (hpl : (backTo pos (starEach [] X.env)).any (·.1) = false := by rfl) :
    PE X (.Call (.Name "sorted" p) [a] [] pos) (sE g W (mCallL lSortP ms)) := fe_callBL (r := L2.rSortU X.K 2 1000) (cr_sortT (by decide)) (by rw [hK]; exact l_sortP) hg hm PyProof.Rows.boot_sorted ha (by decide) (by decide) hs hpl
end
/-! ### list * int -/
theorem dpAll_rep {K : PySem.W.Frag} {H : Hp} {vs : List V} {xs : List PyData} (d : DpAll K H vs xs) (k : Nat) : DpAll K H (List.replicate k vs).flatten (List.replicate k xs).flatten := dpAll_flat d k
section
variable {X : Cx} {g : Gd} {W : XW} {σ : L2.St} {H : Hp} {pos : Pos} {a b : Expr}
theorem sE_rep {ma mb : M} {Q : VK} (h : sE g W (mRep ma mb) σ H Q) : sE g W ma σ H fun x H1 => sE g W mb σ H1 fun y H2 => rRep x y H2 Q := by
  obtain ⟨ρ, F, hid, r0, p⟩ := h
  refine ⟨ρ, F, hid, r0, Post.bind (G := []) Ext.refl p fun x ρ1 H1 F1 G1 v r1 x1 v1 p1 => ?_⟩
  split at p1
  · rename_i os
    split at p1
    · rename_i xs e1
      have hv : RO g H1 (off H1 (F1 ++ (G1 ++ hid))) v (.lst os) G1 := v1
      obtain ⟨l, vs, FT, rfl, eF, h1, rs⟩ := ro_lst hv
      rw [allD_eq e1] at rs
      obtain ⟨eT, d1⟩ := ROs.dat rs
      subst eT
      subst eF
      refine ⟨ρ1, F1, [l] ++ hid, r1, Post.bind (G := [l]) x1 p1 fun y ρ2 H2 F2 G2 w r2 x2 v2 p2 => ?_⟩
      cases e2 : intR ρ2 y with
      | none => simp only [e2] at p2; exact p2.elim
      | some k =>
        simp only [e2] at p2
        have ew := rv_int v2 (Same.refl _) (fun _ _ => rfl) r2 e2
        subst ew
        split at p2
        · rename_i hc
          simp only [Bool.and_eq_true, decide_eq_true_eq] at hc
          have hl : H2 l = some (.lst vs) := (x2.hd l (List.mem_append_left _ List.mem_cons_self)).trans h1
          have d2 := dpAll_mono x2.op d1
          refine ⟨l, k, vs, rfl, rfl, hl, by omega, by omega, by rw [DpAll.length d1, line_eq]; exact hc.2.2, fun q hn => ?_⟩
          have r3 : Rel g H2 σ ρ2 F2 ([] ++ hid) := rel_drop (rel_drop r2)
          have sub : ∀ a ∈ F2 ++ ([] ++ hid), a ∈ F2 ++ (G2 ++ ([l] ++ hid)) := fun a m => (List.mem_append.mp m).elim (List.mem_append_left _) fun z => List.mem_append_right _ (List.mem_append_right _ (List.mem_append_right _ z))
          have xx : Ext hid H (F ++ hid) H2 (F2 ++ ([] ++ hid)) := (Ext.trans x1 (x2.less fun c m => List.mem_append_right _ m)).trans (Ext.sub sub)
          exact Post.endO (F1 := []) p2 r3 xx hn (.lst upd_same (ros_dat (dpAll_mono (off_sub sub) (dpAll_flat d2 k.toNat))))
        · exact p2.elim
    · exact p1.elim
  · exact p1.elim
theorem fe_rep {ma mb : M} (ha : PE X a (sE g W ma)) (hb : PE X b (sE g W mb)) : PE X (.BinOp a .Mult b pos) (sE g W (mRep ma mb)) := PE.imp (pe_op op_rep ha hb) fun _ _ _ h => sE_rep h
end
end FL
end
section
set_option Elab.async false
set_option linter.all false
set_option maxRecDepth 100000
set_option autoImplicit false
namespace K50
open PySem PySem.Spec PyProof.Rows L2 FL
/-! what each def of the law computes -/
def f_bits_of : Fn := fnOf [] 3 (mSeq (mSet 1 (mC (.int 0)))
  (mSeq (mFor (mItems (mVar 0)) (.n 2)
  (mSet 1 (mOp oOr (mVar 1) (mOp oShl (mC (.int 1)) (mVar 2)))))
  (mRet (mVar 1))))
def f_has : Fn := fnOf [] 2 (mRet (mOp oEq (mOp oAnd (mOp oShr (mVar 0) (mVar 1)) (mC (.int 1))) (mC (.int 1))))
def f_members : Fn := fnOf [] 3 (mSeq (mSet 1 (mLstO mNil))
  (mSeq (mSet 2 (mC (.int 0)))
  (mSeq (fun ρ => whileL (mTst asB (mOp oGt (mVar 0) (mC (.int 0))))
  (mSeq (mIfS (mTst asB (mOp oEq (mOp oAnd (mVar 0) (mC (.int 1))) (mC (.int 1))))
  (mExpr (mAppend 1 (mVar 2)))
  mSkip)
  (mSeq (mSet 0 (mOp oShr (mVar 0) (mC (.int 1))))
  (mAug fAdd 2 (mC (.int 1))))) (natAt ρ 0 + 1) ρ)
  (mRet (mCallB fTuple (mCons (mVar 1) mNil))))))
def f_count : Fn := fnOf [] 2 (mSeq (mSet 1 (mC (.int 0)))
  (mSeq (fun ρ => whileL (mTst asB (mOp oGt (mVar 0) (mC (.int 0))))
  (mSeq (mAug fAdd 1 (mOp oAnd (mVar 0) (mC (.int 1))))
  (mSet 0 (mOp oShr (mVar 0) (mC (.int 1))))) (natAt ρ 0 + 1) ρ)
  (mRet (mVar 1))))
def f_full : Fn := fnOf [] 1 (mRet (mOp oSub (mOp oShl (mC (.int 1)) (mVar 0)) (mC (.int 1))))
def f_inside : Fn := fnOf [] 2 (mRet (mOp oEq (mOp oAnd (mVar 0) (mVar 1)) (mVar 0)))
def f_below : Fn := fnOf [] 4 (mSeq (mSet 1 (mCallB fLen (mCons (mVar 0) mNil)))
  (mRet (mCallB fTuple (mCons (mLc (mWalk k1 (mCons (mVar 1) mNil)) (.n 3) [3] mYes (mCall [] 1 f_bits_of (mCons (mFrz (mLc (mWalk k1 (mCons (mVar 1) mNil)) (.n 2) [2] (mTst tru (mCall [] 2 f_has (mCons (mOp oIx (mVar 0) (mVar 2)) (mCons (mVar 3) mNil)))) (mVar 2))) mNil))) mNil))))
def f_covers : Fn := fnOf [] 5 (mSeq (mSet 1 (mLstO mNil))
  (mSeq (mSet 2 (mCall [] 1 f_below (mCons (mVar 0) mNil)))
  (mSeq (mFor (mWalk k1 (mCons (mCallB fLen (mCons (mVar 0) mNil)) mNil)) (.n 3)
  (mFor (mItems (mCall [] 1 f_members (mCons (mOp oIx (mVar 0) (mVar 3)) mNil))) (.n 4)
  (mIfS (mAndT (mTst asB (mOp oNe (mVar 3) (mVar 4))) (mTst asB (mOp oEq (mOp oAnd (mOp oIx (mVar 0) (mVar 3)) (mOp oIx (mVar 2) (mVar 4))) (mOp oOr (mOp oShl (mC (.int 1)) (mVar 3)) (mOp oShl (mC (.int 1)) (mVar 4))))))
  (mExpr (mAppend 1 (mTup (mCons (mVar 3) (mCons (mVar 4) mNil)))))
  mSkip)))
  (mRet (mCallB fTuple (mCons (mVar 1) mNil))))))
def f_part_of : Fn := fnOf [] 5 (mRet (mCallB fTuple (mCons (mLc (mItems (mVar 1)) (.n 4) [4] mYes (mCall [] 1 f_bits_of (mCons (mFrz (mLc (mWalk kEn (mCons (mVar 1) mNil)) (.t [2, 3]) [2, 3] (mTst tru (mCall [] 2 f_has (mCons (mOp oIx (mVar 0) (mVar 4)) (mCons (mVar 3) mNil)))) (mVar 2))) mNil))) mNil)))
def f_between : Fn := fnOf [] 4 (mSeq (mSet 3 (mCall [] 1 f_below (mCons (mVar 0) mNil)))
  (mRet (mCall [] 1 f_members (mCons (mOp oAnd (mOp oIx (mVar 0) (mVar 1)) (mOp oIx (mVar 3) (mVar 2))) mNil))))
def f_moebius_table : Fn := fnOf [] 9 (mSeq (mSet 1 (mCallB fLen (mCons (mVar 0) mNil)))
  (mSeq (mSet 2 (mLc (mWalk k1 (mCons (mVar 1) mNil)) (.n 3) [3] mYes (mRep (mLstO (mCons (mC (.int 0)) mNil)) (mVar 1))))
  (mSeq (mSet 4 (mCall [] 1 f_below (mCons (mVar 0) mNil)))
  (mSeq (mFor (mWalk k1 (mCons (mVar 1) mNil)) (.n 5)
  (mSeq (mSetIx2 2 5 5 (mC (.int 1)))
  (mSeq (mSet 6 (mFrz (mCallL lSortP (mCons (mLc (mItems (mCall [] 1 f_members (mCons (mOp oIx (mVar 0) (mVar 5)) mNil))) (.n 3) [3] mYes (mTup (mCons (mCall [] 1 f_count (mCons (mOp oAnd (mOp oIx (mVar 4) (mVar 3)) (mOp oIx (mVar 0) (mVar 5))) mNil)) (mCons (mVar 3) mNil)))) mNil))))
  (mFor (mItems (mVar 6)) (.t [7, 8])
  (mIfS (mTst asB (mOp oNe (mVar 8) (mVar 5)))
  (mSetIx2 2 5 8 (mUn oNeg (mCallB fSum (mCons (mLc (mItems (mCall [] 3 f_between (mCons (mVar 0) (mCons (mVar 5) (mCons (mVar 8) mNil))))) (.n 3) [3] (mTst asB (mOp oNe (mVar 3) (mVar 8))) (mIx2 2 5 3)) mNil))))
  mSkip)))))
  (mRet (mCallB fTuple (mCons (mLc (mItems (mFz 2)) (.n 6) [6] mYes (mCallB fTuple (mCons (mVar 6) mNil))) mNil)))))))
def f_euler_number : Fn := fnOf [] 6 (mSeq (mSet 1 (mC (.int 0)))
  (mSeq (mSet 2 (mFrz (mRep (mLstO (mCons (mC (.int 1)) mNil)) (mCallB fLen (mCons (mVar 0) mNil)))))
  (mSeq (mSet 3 (mC (.int 1)))
  (mSeq (fun ρ => whileL (mTst tru (mCallB fAnyZ (mCons (mVar 2) mNil)))
  (mSeq (mAug fAdd 1 (mOp oMulI (mVar 3) (mCallB fSum (mCons (mVar 2) mNil))))
  (mSeq (mSet 3 (mUn oNeg (mVar 3)))
  (mSet 2 (mFrz (mLc (mWalk k1 (mCons (mCallB fLen (mCons (mVar 0) mNil)) mNil)) (.n 5) [5] mYes (mCallB fSum (mCons (mLc (mItems (mCall [] 1 f_members (mCons (mOp oIx (mVar 0) (mVar 5)) mNil))) (.n 4) [4] (mTst asB (mOp oNe (mVar 4) (mVar 5))) (mOp oIx (mVar 2) (mVar 4))) mNil))))))) (lenAt ρ 0 + 1) ρ)
  (mRet (mVar 1))))))
def f_least_of : Fn := fnOf [] 3 (mSeq (mFor (mItems (mCall [] 1 f_members (mCons (mVar 1) mNil))) (.n 2)
  (mIfS (mTst tru (mCall [] 2 f_inside (mCons (mVar 1) (mCons (mOp oIx (mVar 0) (mVar 2)) mNil))))
  (mRet (mVar 2))
  mSkip))
  (mRet (mC .none)))
def f_lattice_paper : Fn := fnOf [] 8 (mSeq (mIfS (mTst asB (mOp oEq (mCallB fLen (mCons (mVar 0) mNil)) (mC (.int 0))))
  mBad
  mSkip)
  (mSeq (mSet 1 (mRg (mCallB fLen (mCons (mVar 0) mNil))))
  (mSeq (mSet 2 (mCall [] 1 f_below (mCons (mVar 0) mNil)))
  (mSeq (mSet 3 (mFrz (mLc (mWalkRg (mVar 1)) (.n 5) [5] mYes (mFrz (mLc (mWalkRg (mVar 1)) (.n 4) [4] mYes (mCall [] 2 f_least_of (mCons (mVar 0) (mCons (mOp oAnd (mOp oIx (mVar 0) (mVar 5)) (mOp oIx (mVar 0) (mVar 4))) mNil))))))))
  (mSeq (mSet 6 (mFrz (mLc (mWalkRg (mVar 1)) (.n 5) [5] mYes (mFrz (mLc (mWalkRg (mVar 1)) (.n 4) [4] mYes (mCall [] 2 f_least_of (mCons (mVar 2) (mCons (mOp oAnd (mOp oIx (mVar 2) (mVar 5)) (mOp oIx (mVar 2) (mVar 4))) mNil))))))))
  (mSeq (mFor (mWalkRg (mVar 1)) (.n 5)
  (mFor (mWalkRg (mVar 1)) (.n 4)
  (mSeq (mIfS (mTst asB (mOp oIsN (mOp oIx (mOp oIx (mVar 3) (mVar 5)) (mVar 4)) (mC .none)))
  (mRet (mTup (mCons (mC (.str "join")) (mCons (mVar 5) (mCons (mVar 4) mNil)))))
  mSkip)
  (mIfS (mTst asB (mOp oIsN (mOp oIx (mOp oIx (mVar 6) (mVar 5)) (mVar 4)) (mC .none)))
  (mRet (mTup (mCons (mC (.str "meet")) (mCons (mVar 5) (mCons (mVar 4) mNil)))))
  mSkip))))
  (mRet (mTup (mCons (mC (.str "lattice")) (mCons (mCallB fTuple (mCons (mLc (mItems (mVar 6)) (.n 7) [7] mYes (mCallB fTuple (mCons (mVar 7) mNil))) mNil)) (mCons (mCallB fTuple (mCons (mLc (mItems (mVar 3)) (.n 7) [7] mYes (mCallB fTuple (mCons (mVar 7) mNil))) mNil)) mNil)))))))))))
def f_tables_of : Fn := fnOf [] 2 (mSeq (mSet 1 (mCall [] 1 f_lattice_paper (mCons (mVar 0) mNil)))
  (mSeq (mIfS (mTst asB (mOp oNe (mOp oIx (mVar 1) (mC (.int 0))) (mC (.str "lattice"))))
  mBad
  mSkip)
  (mRet (mTup (mCons (mOp oIx (mVar 1) (mC (.int 1))) (mCons (mOp oIx (mVar 1) (mC (.int 2))) mNil))))))
def f_bottom : Fn := fnOf [] 1 (mRet (mCall [] 2 f_least_of (mCons (mVar 0) (mCons (mCall [] 1 f_full (mCons (mCallB fLen (mCons (mVar 0) mNil)) mNil)) mNil))))
def f_top : Fn := fnOf [] 1 (mRet (mCall [] 2 f_least_of (mCons (mCall [] 1 f_below (mCons (mVar 0) mNil)) (mCons (mCall [] 1 f_full (mCons (mCallB fLen (mCons (mVar 0) mNil)) mNil)) mNil))))
def f_atoms : Fn := fnOf [] 4 (mSeq (mSet 1 (mCall [] 1 f_bottom (mCons (mVar 0) mNil)))
  (mRet (mCallB fTuple (mCons (mLc (mItems (mCall [] 1 f_covers (mCons (mVar 0) mNil))) (.t [2, 3]) [2, 3] (mTst asB (mOp oEq (mVar 2) (mVar 1))) (mVar 3)) mNil))))
def f_law_begin : Fn := fnOf [] 3 (mSeq (mSet 1 (mC (.int 5)))
  (mSeq (mFor (mItems (mVar 0)) (.n 2)
  (mSet 1 (mOp oMod (mOp oAdd (mOp oAdd (mOp oMulI (mVar 1) (mC (.int 48271))) (mOp oMod (mCallB fInt (mCons (mVar 2) mNil)) (mC (.int 2147483629)))) (mC (.int 11))) (mC (.int 2147483647)))))
  (mRet (mLstO (mCons (mFrz (mCallL lList (mCons (mVar 0) mNil))) (mCons (mC (.int 0)) (mCons (mC (.int 0)) (mCons (mVar 1) mNil))))))))
def f_law_take : Fn := fnOf [0] 4 (mSeq (mIfS (mAndT (mTst asB (mOp oEq (mOp oIx (mVar 0) (mC (.int 2))) (mC (.int 0)))) (mTst asB (mOp oLt (mOp oIx (mVar 0) (mC (.int 1))) (mCallB fLen (mCons (mOp oIx (mVar 0) (mC (.int 0))) mNil)))))
  (mSeq (mSetIx 0 (mCallB fAbs (mCons (mCallB fInt (mCons (mOp oIx (mOp oIx (mVar 0) (mC (.int 0))) (mOp oIx (mVar 0) (mC (.int 1)))) mNil)) mNil)) (mC (.int 2)))
  (mSeq (mSetIx 0 (mOp oAdd (mOp oIx (mVar 0) (mC (.int 1))) (mC (.int 1))) (mC (.int 1)))
  (mIfS (mTst asB (mOp oLt (mOp oIx (mVar 0) (mC (.int 2))) (mOp oPow (mC (.int 10)) (mC (.int 18)))))
  (mSeq (mSet 2 (mCallB fInt (mCons (mOp oIx (mVar 0) (mC (.int 2))) mNil)))
  (mSeq (mSetIx 0 (mC (.int 0)) (mC (.int 2)))
  (mRet (mOp oMod (mVar 2) (mVar 1)))))
  mSkip)))
  mSkip)
  (mSeq (mIfS (mTst asB (mOp oGt (mOp oIx (mVar 0) (mC (.int 2))) (mC (.int 0))))
  (mSeq (mSet 3 (mOp oMod (mCallB fInt (mCons (mOp oIx (mVar 0) (mC (.int 2))) mNil)) (mVar 1)))
  (mSeq (mSetIx 0 (mOp oDiv (mCallB fInt (mCons (mOp oIx (mVar 0) (mC (.int 2))) mNil)) (mVar 1)) (mC (.int 2)))
  (mRet (mVar 3))))
  mSkip)
  (mSeq (mSetIx 0 (mOp oMod (mCallB fInt (mCons (mOp oAdd (mOp oMulI (mOp oIx (mVar 0) (mC (.int 3))) (mC (.int 69621))) (mC (.int 7))) mNil)) (mC (.int 2147483647))) (mC (.int 3)))
  (mRet (mOp oMod (mCallB fInt (mCons (mOp oDiv (mOp oIx (mVar 0) (mC (.int 3))) (mC (.int 5))) mNil)) (mVar 1))))))
def f_law_bit : Fn := fnOf [] 3 (mSeq (mSet 1 (mC (.int 1)))
  (mSeq (mFor (mWalk k1 (mCons (mVar 0) mNil)) (.n 2)
  (mSet 1 (mOp oMulI (mC (.int 2)) (mVar 1))))
  (mRet (mVar 1))))
def f_law_bits : Fn := fnOf [] 3 (mSeq (mSet 1 (mC (.int 0)))
  (mSeq (mFor (mItems (mFrz (mCallL lSortU (mCons (mVar 0) mNil)))) (.n 2)
  (mSet 1 (mOp oAdd (mVar 1) (mCall [] 1 f_law_bit (mCons (mVar 2) mNil)))))
  (mRet (mVar 1))))
def f_law_close : Fn := fnOf [] 6 (mSeq (mSet 2 (mLc (mWalk k1 (mCons (mVar 0) mNil)) (.n 4) [4] mYes (mLc (mWalk k1 (mCons (mVar 0) mNil)) (.n 3) [3] mYes (mOp oEq (mVar 4) (mVar 3)))))
  (mSeq (mFor (mItems (mVar 1)) (.t [4, 3])
  (mSetIx2 2 4 3 (mC (.bool true))))
  (mSeq (mFor (mWalk k1 (mCons (mVar 0) mNil)) (.n 5)
  (mFor (mWalk k1 (mCons (mVar 0) mNil)) (.n 4)
  (mFor (mWalk k1 (mCons (mVar 0) mNil)) (.n 3)
  (mIfS (mAndT (mTst tru (mIx2 2 4 5)) (mTst tru (mIx2 2 5 3)))
  (mSetIx2 2 4 3 (mC (.bool true)))
  mSkip))))
  (mRet (mCallB fTuple (mCons (mLc (mWalk k1 (mCons (mVar 0) mNil)) (.n 4) [4] mYes (mCall [] 1 f_law_bits (mCons (mFrz (mLc (mWalk k1 (mCons (mVar 0) mNil)) (.n 3) [3] (mTst tru (mIx2 2 4 3)) (mVar 3))) mNil))) mNil))))))
def f_law_inside : Fn := fnOf [] 2 (mRet (mOp oEq (mOp oAnd (mVar 0) (mVar 1)) (mVar 0)))
def f_law_by_sets : Fn := fnOf [] 3 (mRet (mCallB fTuple (mCons (mLc (mItems (mVar 0)) (.n 2) [2] mYes (mCall [] 1 f_law_bits (mCons (mFrz (mLc (mWalk k1 (mCons (mCallB fLen (mCons (mVar 0) mNil)) mNil)) (.n 1) [1] (mTst tru (mCall [] 2 f_law_inside (mCons (mVar 2) (mCons (mOp oIx (mVar 0) (mVar 1)) mNil)))) (mVar 1))) mNil))) mNil)))
def f_law_has : Fn := fnOf [] 2 (mRet (mOp oEq (mOp oMod (mCallB fInt (mCons (mOp oDiv (mVar 0) (mCall [] 1 f_law_bit (mCons (mVar 1) mNil))) mNil)) (mC (.int 2))) (mC (.int 1))))
def f_law_downs : Fn := fnOf [] 4 (mSeq (mSet 1 (mCallB fLen (mCons (mVar 0) mNil)))
  (mRet (mCallB fTuple (mCons (mLc (mWalk k1 (mCons (mVar 1) mNil)) (.n 3) [3] mYes (mCall [] 1 f_law_bits (mCons (mFrz (mLc (mWalk k1 (mCons (mVar 1) mNil)) (.n 2) [2] (mTst tru (mCall [] 2 f_law_has (mCons (mOp oIx (mVar 0) (mVar 2)) (mCons (mVar 3) mNil)))) (mVar 2))) mNil))) mNil))))
def f_law_members : Fn := fnOf [] 3 (mSeq (mSet 1 (mLstO mNil))
  (mSeq (mSet 2 (mC (.int 0)))
  (mSeq (fun ρ => whileL (mTst asB (mOp oGt (mVar 0) (mC (.int 0))))
  (mSeq (mIfS (mTst asB (mOp oEq (mOp oMod (mCallB fInt (mCons (mVar 0) mNil)) (mC (.int 2))) (mC (.int 1))))
  (mExpr (mAppend 1 (mVar 2)))
  mSkip)
  (mSeq (mSet 0 (mOp oDiv (mVar 0) (mC (.int 2))))
  (mSet 2 (mOp oAdd (mVar 2) (mC (.int 1)))))) (natAt ρ 0 + 1) ρ)
  (mRet (mCallB fTuple (mCons (mVar 1) mNil))))))
def f_law_down_sets : Fn := fnOf [] 4 (mSeq (mSet 1 (mCall [] 1 f_law_downs (mCons (mVar 0) mNil)))
  (mRet (mFrz (mLc (mWalk k1 (mCons (mCall [] 1 f_law_bit (mCons (mCallB fLen (mCons (mVar 0) mNil)) mNil)) mNil)) (.n 2) [2] (mTst tru (mCallB fAll (mCons (mLc (mItems (mCall [] 1 f_law_members (mCons (mVar 2) mNil))) (.n 3) [3] mYes (mCall [] 2 f_law_inside (mCons (mOp oIx (mVar 1) (mVar 3)) (mCons (mVar 2) mNil)))) mNil))) (mVar 2)))))
def f_law_pick : Fn := fnOf [0] 2 (mRet (mOp oIx (mVar 1) (mCall [0] 2 f_law_take (mCons (mVar 0) (mCons (mCallB fLen (mCons (mVar 1) mNil)) mNil)))))
def f_law_named : Fn := fnOf [] 5 (mSeq (mSet 2 (mCallB fLen (mCons (mVar 0) mNil)))
  (mRet (mCallB fTuple (mCons (mLc (mWalk k1 (mCons (mVar 2) mNil)) (.n 4) [4] mYes (mCall [] 1 f_law_bits (mCons (mFrz (mLc (mItems (mCall [] 1 f_law_members (mCons (mOp oIx (mVar 0) (mIdx 1 (mVar 4))) mNil))) (.n 3) [3] mYes (mOp oIx (mVar 1) (mVar 3)))) mNil))) mNil))))
def f_law_shuffled : Fn := fnOf [0] 4 (mSeq (mSet 2 (mLRg (mVar 1)))
  (mRet (mTupF (mLc (mWalk k1 (mCons (mVar 1) mNil)) (.n 3) [3] mYes (mPopAt 2 (mCall [0] 2 f_law_take (mCons (mVar 0) (mCons (mCallB fLen (mCons (mVar 2) mNil)) mNil))))))))
def f_law_order : Fn := fnOf [0] 11 (mSeq (mSet 2 (mCall [0] 2 f_law_take (mCons (mVar 0) (mCons (mOp oAdd (mVar 1) (mC (.int 1))) mNil))))
  (mSeq (mSet 3 (mCall [0] 2 f_law_take (mCons (mVar 0) (mCons (mC (.int 7)) mNil))))
  (mSeq (mSet 4 (mLstO mNil))
  (mSeq (mIfS (mTst asB (mOp oLt (mVar 3) (mC (.int 2))))
  (mSeq (mSet 5 (mCall [0] 2 f_law_pick (mCons (mVar 0) (mCons (mLstD (mCons (mC (.int 2)) (mCons (mC (.int 3)) (mCons (mC (.int 4)) (mCons (mC (.int 7)) mNil))))) mNil))))
  (mFor (mWalk k1 (mCons (mVar 2) mNil)) (.n 6)
  (mExpr (mExtend 4 (mLc (mWalk k1 (mCons (mVar 6) mNil)) (.n 7) [7] (mTst asB (mOp oEq (mCall [0] 2 f_law_take (mCons (mVar 0) (mCons (mVar 5) mNil))) (mC (.int 0)))) (mTup (mCons (mVar 7) (mCons (mVar 6) mNil))))))))
  (mIfS (mTst asB (mOp oEq (mVar 3) (mC (.int 2))))
  (mSeq (mSet 8 (mFrz (mLc (mWalk k1 (mCons (mVar 2) mNil)) (.n 7) [7] mYes (mCall [0] 2 f_law_take (mCons (mVar 0) (mCons (mC (.int 4)) mNil))))))
  (mFor (mWalk k1 (mCons (mVar 2) mNil)) (.n 7)
  (mExpr (mExtend 4 (mLc (mWalk k1 (mCons (mVar 2) mNil)) (.n 6) [6] (mTst asB (mOp oLt (mOp oIx (mVar 8) (mVar 7)) (mOp oIx (mVar 8) (mVar 6)))) (mTup (mCons (mVar 7) (mCons (mVar 6) mNil))))))))
  (mIfS (mAndT (mTst asB (mOp oEq (mVar 3) (mC (.int 3)))) (mTst asB (mOp oGe (mVar 1) (mC (.int 6)))))
  (mSeq (mSet 2 (mC (.int 6)))
  (mFor (mWalk k1 (mCons (mC (.int 3)) mNil)) (.n 7)
  (mExpr (mExtend 4 (mLc (mWalk k1 (mCons (mC (.int 3)) mNil)) (.n 6) [6] (mTst asB (mOp oNe (mVar 7) (mVar 6))) (mTup (mCons (mVar 7) (mCons (mOp oAdd (mC (.int 3)) (mVar 6)) mNil))))))))
  (mIfS (mTst asB (mOp oEq (mVar 3) (mC (.int 4))))
  (mSeq (mSet 9 (mFrz (mLc (mWalk k1 (mCons (mVar 2) mNil)) (.n 7) [7] mYes (mFrz (mCallL lSortI (mCons (mLstD (mCons (mCall [0] 2 f_law_take (mCons (mVar 0) (mCons (mC (.int 9)) mNil))) (mCons (mCall [0] 2 f_law_take (mCons (mVar 0) (mCons (mC (.int 9)) mNil))) mNil))) mNil))))))
  (mFor (mWalk k1 (mCons (mVar 2) mNil)) (.n 7)
  (mExpr (mExtend 4 (mLc (mWalk k1 (mCons (mVar 2) mNil)) (.n 6) [6] (mTst asB (mOp oLt (mOp oIx (mOp oIx (mVar 9) (mVar 7)) (mC (.int 1))) (mOp oIx (mOp oIx (mVar 9) (mVar 6)) (mC (.int 0))))) (mTup (mCons (mVar 7) (mCons (mVar 6) mNil))))))))
  (mIfS (mTst asB (mOp oEq (mVar 3) (mC (.int 5))))
  (mSeq (mSet 10 (mCall [0] 2 f_law_take (mCons (mVar 0) (mCons (mOp oAdd (mVar 2) (mC (.int 1))) mNil))))
  (mFor (mWalk k1 (mCons (mVar 2) mNil)) (.n 7)
  (mExpr (mExtend 4 (mLc (mWalk k2 (mCons (mOp oAdd (mVar 7) (mC (.int 1))) (mCons (mVar 2) mNil))) (.n 6) [6] (mAndT (mTst asB (mOp oEq (mOp oLt (mVar 7) (mVar 10)) (mOp oLt (mVar 6) (mVar 10)))) (mTst asB (mOp oEq (mCall [0] 2 f_law_take (mCons (mVar 0) (mCons (mC (.int 2)) mNil))) (mC (.int 0))))) (mTup (mCons (mVar 7) (mCons (mVar 6) mNil))))))))
  (mSet 4 (mCat (mLc (mWalk k3 (mCons (mC (.int 0)) (mCons (mOp oSub (mVar 2) (mC (.int 1))) (mCons (mC (.int 2)) mNil)))) (.n 7) [7] mYes (mTup (mCons (mVar 7) (mCons (mOp oAdd (mVar 7) (mC (.int 1))) mNil)))) (mLc (mWalk k3 (mCons (mC (.int 2)) (mCons (mVar 2) (mCons (mC (.int 2)) mNil)))) (.n 7) [7] mYes (mTup (mCons (mVar 7) (mCons (mOp oSub (mVar 7) (mC (.int 1))) mNil)))))))))))
  (mRet (mCall [] 2 f_law_named (mCons (mCall [] 2 f_law_close (mCons (mVar 2) (mCons (mFz 4) mNil))) (mCons (mCall [0] 2 f_law_shuffled (mCons (mVar 0) (mCons (mVar 2) mNil))) mNil))))))))
def f_law_cuts : Fn := fnOf [] 8 (mSeq (mSet 1 (mCallB fLen (mCons (mVar 0) mNil)))
  (mSeq (mSet 2 (mCall [] 1 f_law_downs (mCons (mVar 0) mNil)))
  (mSeq (mSet 3 (mLstO mNil))
  (mSeq (mFor (mWalk k1 (mCons (mCall [] 1 f_law_bit (mCons (mVar 1) mNil)) mNil)) (.n 4)
  (mSeq (mSet 5 (mOp oSub (mCall [] 1 f_law_bit (mCons (mVar 1) mNil)) (mC (.int 1))))
  (mSeq (mFor (mItems (mCall [] 1 f_law_members (mCons (mVar 4) mNil))) (.n 6)
  (mSet 5 (mOp oAnd (mVar 5) (mOp oIx (mVar 0) (mVar 6)))))
  (mSeq (mSet 7 (mOp oSub (mCall [] 1 f_law_bit (mCons (mVar 1) mNil)) (mC (.int 1))))
  (mSeq (mFor (mItems (mCall [] 1 f_law_members (mCons (mVar 5) mNil))) (.n 6)
  (mSet 7 (mOp oAnd (mVar 7) (mOp oIx (mVar 2) (mVar 6)))))
  (mExpr (mAppend 3 (mVar 7))))))))
  (mRet (mFrz (mCallL lSortU (mCons (mVar 3) mNil))))))))
def f_law_lattice : Fn := fnOf [0] 17 (mSeq (mSet 2 (mCall [0] 2 f_law_take (mCons (mVar 0) (mCons (mC (.int 7)) mNil))))
  (mSeq (mIfS (mTst asB (mOp oEq (mVar 2) (mC (.int 0))))
  (mSeq (mSet 3 (mOp oAdd (mC (.int 2)) (mCall [0] 2 f_law_take (mCons (mVar 0) (mCons (mC (.int 5)) mNil)))))
  (mSeq (mSet 4 (mCat (mLc (mWalk k1 (mCons (mVar 3) mNil)) (.n 5) [5] mYes (mTup (mCons (mC (.int 0)) (mCons (mVar 5) mNil)))) (mLc (mWalk k1 (mCons (mVar 3) mNil)) (.n 5) [5] mYes (mTup (mCons (mVar 5) (mCons (mOp oSub (mVar 3) (mC (.int 1))) mNil))))))
  (mSet 6 (mCall [] 2 f_law_close (mCons (mVar 3) (mCons (mFz 4) mNil))))))
  (mIfS (mTst asB (mOp oEq (mVar 2) (mC (.int 1))))
  (mSeq (mSet 7 (mOp oAdd (mC (.int 1)) (mCall [0] 2 f_law_take (mCons (mVar 0) (mCons (mC (.int 3)) mNil)))))
  (mSeq (mSet 8 (mOp oAdd (mC (.int 1)) (mCall [0] 2 f_law_take (mCons (mVar 0) (mCons (mC (.int 3)) mNil)))))
  (mSeq (mSet 4 (mCat (mOp oAdd (mLstD (mCons (mTup (mCons (mC (.int 0)) (mCons (mC (.int 1)) mNil))) (mCons (mTup (mCons (mVar 7) (mCons (mOp oAdd (mOp oAdd (mVar 7) (mVar 8)) (mC (.int 1))) mNil))) (mCons (mTup (mCons (mC (.int 0)) (mCons (mOp oAdd (mVar 7) (mC (.int 1))) mNil))) mNil)))) (mLc (mWalk k2 (mCons (mC (.int 1)) (mCons (mVar 7) mNil))) (.n 5) [5] mYes (mTup (mCons (mVar 5) (mCons (mOp oAdd (mVar 5) (mC (.int 1))) mNil))))) (mLc (mWalk k2 (mCons (mOp oAdd (mVar 7) (mC (.int 1))) (mCons (mOp oAdd (mOp oAdd (mVar 7) (mVar 8)) (mC (.int 1))) mNil))) (.n 5) [5] mYes (mTup (mCons (mVar 5) (mCons (mOp oAdd (mVar 5) (mC (.int 1))) mNil))))))
  (mSet 6 (mCall [] 2 f_law_close (mCons (mOp oAdd (mOp oAdd (mVar 7) (mVar 8)) (mC (.int 2))) (mCons (mFz 4) mNil)))))))
  (mIfS (mTst asB (mOp oEq (mVar 2) (mC (.int 2))))
  (mSeq (mSet 9 (mOp oAdd (mC (.int 1)) (mCall [0] 2 f_law_take (mCons (mVar 0) (mCons (mC (.int 4)) mNil)))))
  (mSeq (mSet 3 (mOp oAdd (mC (.int 1)) (mCall [0] 2 f_law_take (mCons (mVar 0) (mCons (mC (.int 3)) mNil)))))
  (mSeq (mSet 4 (mLstO mNil))
  (mSeq (mFor (mWalk k1 (mCons (mVar 9) mNil)) (.n 5)
  (mFor (mWalk k1 (mCons (mVar 3) mNil)) (.n 10)
  (mExpr (mExtend 4 (mCat (mLc (mWalk k2 (mCons (mVar 5) (mCons (mVar 9) mNil))) (.n 11) [11] mYes (mTup (mCons (mOp oAdd (mOp oMulI (mVar 5) (mVar 3)) (mVar 10)) (mCons (mOp oAdd (mOp oMulI (mVar 11) (mVar 3)) (mVar 10)) mNil)))) (mLc (mWalk k2 (mCons (mVar 10) (mCons (mVar 3) mNil))) (.n 11) [11] mYes (mTup (mCons (mOp oAdd (mOp oMulI (mVar 5) (mVar 3)) (mVar 10)) (mCons (mOp oAdd (mOp oMulI (mVar 5) (mVar 3)) (mVar 11)) mNil)))))))))
  (mSet 6 (mCall [] 2 f_law_close (mCons (mOp oMulI (mVar 9) (mVar 3)) (mCons (mFz 4) mNil))))))))
  (mIfS (mTst asB (mOp oEq (mVar 2) (mC (.int 3))))
  (mSet 6 (mCall [] 1 f_law_by_sets (mCons (mCall [] 1 f_law_down_sets (mCons (mCall [0] 2 f_law_order (mCons (mVar 0) (mCons (mC (.int 4)) mNil))) mNil)) mNil)))
  (mIfS (mTst asB (mOp oEq (mVar 2) (mC (.int 4))))
  (mSeq (mSet 12 (mOp oAdd (mLstD (mCons (mC (.int 15)) mNil)) (mLc (mWalk k1 (mCons (mCall [0] 2 f_law_take (mCons (mVar 0) (mCons (mC (.int 4)) mNil))) mNil)) (.n 13) [13] mYes (mCall [0] 2 f_law_take (mCons (mVar 0) (mCons (mC (.int 16)) mNil))))))
  (mSeq (mFor (mWalk k1 (mCons (mC (.int 3)) mNil)) (.n 14)
  (mSeq (mSet 15 (mLstO mNil))
  (mSeq (mFor (mItems (mVar 12)) (.n 7)
  (mExpr (mExtend 15 (mLc (mItems (mVar 12)) (.n 8) [8] mYes (mOp oAnd (mVar 7) (mVar 8))))))
  (mSet 12 (mFrz (mCallL lSortU (mCons (mOp oAdd (mVar 12) (mVar 15)) mNil)))))))
  (mSet 6 (mCall [] 1 f_law_by_sets (mCons (mVar 12) mNil)))))
  (mIfS (mTst asB (mOp oEq (mVar 2) (mC (.int 5))))
  (mSeq (mSet 16 (mCall [0] 2 f_law_order (mCons (mVar 0) (mCons (mC (.int 4)) mNil))))
  (mSet 6 (mCall [] 1 f_law_by_sets (mCons (mCall [] 1 f_law_cuts (mCons (mVar 16) mNil)) mNil))))
  (mSet 6 (mCall [] 2 f_law_close (mCons (mC (.int 8)) (mCons (mLstD (mCons (mTup (mCons (mC (.int 0)) (mCons (mC (.int 1)) mNil))) (mCons (mTup (mCons (mC (.int 0)) (mCons (mC (.int 2)) mNil))) (mCons (mTup (mCons (mC (.int 0)) (mCons (mC (.int 3)) mNil))) (mCons (mTup (mCons (mC (.int 1)) (mCons (mC (.int 4)) mNil))) (mCons (mTup (mCons (mC (.int 2)) (mCons (mC (.int 4)) mNil))) (mCons (mTup (mCons (mC (.int 2)) (mCons (mC (.int 5)) mNil))) (mCons (mTup (mCons (mC (.int 3)) (mCons (mC (.int 5)) mNil))) (mCons (mTup (mCons (mC (.int 4)) (mCons (mC (.int 6)) mNil))) (mCons (mTup (mCons (mC (.int 5)) (mCons (mC (.int 6)) mNil))) (mCons (mTup (mCons (mC (.int 1)) (mCons (mC (.int 6)) mNil))) (mCons (mTup (mCons (mC (.int 6)) (mCons (mC (.int 7)) mNil))) mNil)))))))))))) mNil))))))))))
  (mSeq (mIfS (mOrT (mTst asB (mOp oGt (mCallB fLen (mCons (mVar 6) mNil)) (mVar 1))) (mTst asB (mOp oEq (mCallB fLen (mCons (mVar 6) mNil)) (mC (.int 0)))))
  (mSet 6 (mTup (mCons (mC (.int 3)) (mCons (mC (.int 2)) mNil))))
  mSkip)
  (mRet (mCall [] 2 f_law_named (mCons (mVar 6) (mCons (mCall [0] 2 f_law_shuffled (mCons (mVar 0) (mCons (mCallB fLen (mCons (mVar 6) mNil)) mNil))) mNil)))))))
def f_law_count : Fn := fnOf [] 1 (mRet (mCallB fLen (mCons (mCall [] 1 f_law_members (mCons (mVar 0) mNil)) mNil)))
def f_law : Fn := fnOf [] 19 (mSeq (mSet 1 (mCall [] 1 f_law_begin (mCons (mVar 0) mNil)))
  (mSeq (mSet 2 (mCall [0] 2 f_law_lattice (mCons (mVar 1) (mCons (mC (.int 10)) mNil))))
  (mSeq (mSet 3 (mCallB fLen (mCons (mVar 2) mNil)))
  (mSeq (mIfS (mTst asB (mOp oLt (mVar 3) (mC (.int 2))))
  (mRet (mOp oEq (mCall [] 1 f_moebius_table (mCons (mVar 2) mNil)) (mTup (mCons (mTup (mCons (mC (.int 1)) mNil)) mNil))))
  mSkip)
  (mSeq (mSet 4 (mCall [] 1 f_bottom (mCons (mVar 2) mNil)))
  (mSeq (mSet 5 (mCall [] 1 f_top (mCons (mVar 2) mNil)))
  (mSeq (mSet 6 (mCall [] 1 f_moebius_table (mCons (mVar 2) mNil)))
  (mSeq (mSet 7 (mOp oIx (mOp oIx (mVar 6) (mVar 4)) (mVar 5)))
  (mSeq (mSet 8 (mCallB fTuple (mCons (mLc (mWalk k1 (mCons (mVar 3) mNil)) (.n 9) [9] (mAndT (mTst asB (mOp oNe (mVar 9) (mVar 4))) (mTst asB (mOp oNe (mVar 9) (mVar 5)))) (mVar 9)) mNil)))
  (mSeq (mIfS (mTst asB (mOp oNe (mVar 7) (mOp oSub (mCall [] 1 f_euler_number (mCons (mCall [] 2 f_part_of (mCons (mVar 2) (mCons (mVar 8) mNil))) mNil)) (mC (.int 1)))))
  (mRet (mC (.bool false)))
  mSkip)
  (mSeq (mSetT (Tg.put (.t [10, 11])) (mCall [] 1 f_tables_of (mCons (mVar 2) mNil)))
  (mSeq (mSet 12 (mCall [] 1 f_atoms (mCons (mVar 2) mNil)))
  (mSeq (mSet 13 (mC (.int 0)))
  (mSeq (mFor (mWalk k1 (mCons (mCall [] 1 f_law_bit (mCons (mCallB fLen (mCons (mVar 12) mNil)) mNil)) mNil)) (.n 14)
  (mSeq (mSet 15 (mVar 4))
  (mSeq (mFor (mItems (mCall [] 1 f_law_members (mCons (mVar 14) mNil))) (.n 16)
  (mSet 15 (mOp oIx (mOp oIx (mVar 11) (mVar 15)) (mOp oIx (mVar 12) (mVar 16)))))
  (mIfS (mTst asB (mOp oEq (mVar 15) (mVar 5)))
  (mSet 13 (mOp oAdd (mVar 13) (mIf (mTst asB (mOp oEq (mOp oMod (mCall [] 1 f_law_count (mCons (mVar 14) mNil)) (mC (.int 2))) (mC (.int 0)))) (mC (.int 1)) (mOp oSub (mC (.int 0)) (mC (.int 1))))))
  mSkip))))
  (mSeq (mIfS (mTst asB (mOp oNe (mVar 7) (mVar 13)))
  (mRet (mC (.bool false)))
  mSkip)
  (mSeq (mSet 9 (mCall [0] 2 f_law_take (mCons (mVar 1) (mCons (mVar 3) mNil))))
  (mSeq (mIfS (mAndT (mTst asB (mOp oNe (mVar 9) (mVar 4))) (mTst asB (mOp oNe (mCallB fSum (mCons (mLc (mWalk k1 (mCons (mVar 3) mNil)) (.n 17) [17] (mTst asB (mOp oEq (mOp oIx (mOp oIx (mVar 11) (mVar 17)) (mVar 9)) (mVar 5))) (mOp oIx (mOp oIx (mVar 6) (mVar 4)) (mVar 17))) mNil)) (mC (.int 0)))))
  (mRet (mC (.bool false)))
  mSkip)
  (mSeq (mSet 15 (mVar 4))
  (mSeq (mFor (mItems (mVar 12)) (.n 18)
  (mSet 15 (mOp oIx (mOp oIx (mVar 11) (mVar 15)) (mVar 18))))
  (mRet (mOrV (mOp oEq (mVar 15) (mVar 5)) (mOp oEq (mVar 7) (mC (.int 0))))))))))))))))))))))))
end K50
end
section
set_option Elab.async false
set_option linter.all false
set_option maxRecDepth 100000
set_option maxHeartbeats 2000000
set_option autoImplicit false
namespace K50
open PySem PySem.Spec PyProof.Rows L2 FL
/-! the defs by their places; each walked -/
def top (i : Nat) : Stmt := PySem.Challenge.pw_meetsandjoins_k50_whole_moebius_numbers.main.body.getD i (.Pass ⟨0, 0, 0, 0⟩)
structure Txt (mg : Str → Option Value) : Prop where
  b_abs : mg "abs" = none
  b_all : mg "all" = none
  b_any : mg "any" = none
  b_enumerate : mg "enumerate" = none
  b_int : mg "int" = none
  b_len : mg "len" = none
  b_list : mg "list" = none
  b_range : mg "range" = none
  b_set : mg "set" = none
  b_sorted : mg "sorted" = none
  b_sum : mg "sum" = none
  b_tuple : mg "tuple" = none
abbrev sbits_of : Stmt := top 1
abbrev shas : Stmt := top 2
abbrev smembers : Stmt := top 3
abbrev scount : Stmt := top 4
abbrev sfull : Stmt := top 5
abbrev sinside : Stmt := top 6
abbrev sbelow : Stmt := top 12
abbrev scovers : Stmt := top 13
abbrev spart_of : Stmt := top 14
abbrev sbetween : Stmt := top 16
abbrev smoebius_table : Stmt := top 17
abbrev seuler_number : Stmt := top 18
abbrev sleast_of : Stmt := top 20
abbrev slattice_paper : Stmt := top 21
abbrev stables_of : Stmt := top 22
abbrev sbottom : Stmt := top 23
abbrev stop : Stmt := top 24
abbrev satoms : Stmt := top 26
abbrev s_law_begin : Stmt := top 28
abbrev s_law_take : Stmt := top 29
abbrev s_law_bit : Stmt := top 30
abbrev s_law_bits : Stmt := top 31
abbrev s_law_close : Stmt := top 32
abbrev s_law_inside : Stmt := top 33
abbrev s_law_by_sets : Stmt := top 34
abbrev s_law_has : Stmt := top 35
abbrev s_law_downs : Stmt := top 36
abbrev s_law_members : Stmt := top 37
abbrev s_law_down_sets : Stmt := top 38
abbrev s_law_pick : Stmt := top 39
abbrev s_law_named : Stmt := top 40
abbrev s_law_shuffled : Stmt := top 41
abbrev s_law_order : Stmt := top 42
abbrev s_law_cuts : Stmt := top 43
abbrev s_law_lattice : Stmt := top 44
abbrev s_law_count : Stmt := top 45
abbrev slaw : Stmt := top 46
section
variable {P : Program} {w : World} {K : PySem.W.Frag} {mg : Str → Option Value} {base : Heap} {cls : Nat → Addr}
theorem scbits_of : FnScope ["numbers", "found", "number"] ["numbers"] (defScope sbits_of) := ⟨rfl, rfl, rfl, by decide +kernel, rfl, by decide +kernel, by decide +kernel⟩
theorem okbits_of {f : Addr} {fd : FuncData} (F : Fun K "bits_of" "bits_of" sbits_of f fd) (T : Txt mg)  : FnOk P w K mg base CX0 1 f fd ["numbers"] (spF ⟨K, cls⟩ [] 1 f_bits_of) := by
  have sc := scbits_of
  refine fn_fl F sc (fun cdv A outer s H E hr => ?_) 1 3
  exact (fss_cons (fs_set 1 sc.nd fe_int)
  (fss_cons (fs_for (fi_seq rfl (fe_var 0)) (pg_name (i := 2) sc.nd rfl (by first | exact .inl rfl | exact .inr rfl))
  (fss_one (fs_set 1 sc.nd (fe_bor (fe_var 1) (fe_shl fe_int (fe_var 2))))))
  (fss_one (fs_ret (fe_var 1)))))
theorem schas : FnScope ["bits", "number"] ["bits", "number"] (defScope shas) := ⟨rfl, rfl, rfl, by decide +kernel, rfl, by decide +kernel, by decide +kernel⟩
theorem okhas {f : Addr} {fd : FuncData} (F : Fun K "has" "has" shas f fd) (T : Txt mg)  : FnOk P w K mg base CX0 1 f fd ["bits", "number"] (spF ⟨K, cls⟩ [] 2 f_has) := by
  have sc := schas
  refine fn_fl F sc (fun cdv A outer s H E hr => ?_) 2 2
  exact (fss_one (fs_ret (fe_eq hr (fe_band (fe_shr (fe_var 0) (fe_var 1)) fe_int) fe_int)))
theorem scmembers : FnScope ["bits", "found", "number"] ["bits"] (defScope smembers) := ⟨rfl, rfl, rfl, by decide +kernel, rfl, by decide +kernel, by decide +kernel⟩
theorem okmembers {f : Addr} {fd : FuncData} (F : Fun K "members" "members" smembers f fd) (T : Txt mg)  : FnOk P w K mg base CX0 1 f fd ["bits"] (spF ⟨K, cls⟩ [] 1 f_members) := by
  have sc := scmembers
  refine fn_fl F sc (fun cdv A outer s H E hr => ?_) 1 3
  exact (fss_cons (fs_set 1 sc.nd (fe_lstO fa_nil))
  (fss_cons (fs_set 2 sc.nd fe_int)
  (fss_cons (fs_while (fun ρ => natAt ρ 0 + 1) (ft_gt (fe_var 0) fe_int)
  (fss_cons (fs_if (ft_eq hr (fe_band (fe_var 0) fe_int) fe_int)
  (fss_one (fs_expr (fe_append (pv 1) (fa_one (fe_var 2)))))
  fss_nil)
  (fss_cons (fs_set 0 sc.nd (fe_shr (fe_var 0) fe_int))
  (fss_one (fs_augAdd 2 sc.nd fe_int)))))
  (fss_one (fs_ret (fe_tuple T.b_tuple (fa_cons (fe_var 1) fa_nil)))))))
theorem sccount : FnScope ["bits", "found"] ["bits"] (defScope scount) := ⟨rfl, rfl, rfl, by decide +kernel, rfl, by decide +kernel, by decide +kernel⟩
theorem okcount {f : Addr} {fd : FuncData} (F : Fun K "count" "count" scount f fd) (T : Txt mg)  : FnOk P w K mg base CX0 1 f fd ["bits"] (spF ⟨K, cls⟩ [] 1 f_count) := by
  have sc := sccount
  refine fn_fl F sc (fun cdv A outer s H E hr => ?_) 1 2
  exact (fss_cons (fs_set 1 sc.nd fe_int)
  (fss_cons (fs_while (fun ρ => natAt ρ 0 + 1) (ft_gt (fe_var 0) fe_int)
  (fss_cons (fs_augAdd 1 sc.nd (fe_band (fe_var 0) fe_int))
  (fss_one (fs_set 0 sc.nd (fe_shr (fe_var 0) fe_int)))))
  (fss_one (fs_ret (fe_var 1)))))
theorem scfull : FnScope ["many"] ["many"] (defScope sfull) := ⟨rfl, rfl, rfl, by decide +kernel, rfl, by decide +kernel, by decide +kernel⟩
theorem okfull {f : Addr} {fd : FuncData} (F : Fun K "full" "full" sfull f fd) (T : Txt mg)  : FnOk P w K mg base CX0 1 f fd ["many"] (spF ⟨K, cls⟩ [] 1 f_full) := by
  have sc := scfull
  refine fn_fl F sc (fun cdv A outer s H E hr => ?_) 1 1
  exact (fss_one (fs_ret (fe_sub (fe_shl fe_int (fe_var 0)) fe_int)))
theorem scinside : FnScope ["one", "other"] ["one", "other"] (defScope sinside) := ⟨rfl, rfl, rfl, by decide +kernel, rfl, by decide +kernel, by decide +kernel⟩
theorem okinside {f : Addr} {fd : FuncData} (F : Fun K "inside" "inside" sinside f fd) (T : Txt mg)  : FnOk P w K mg base CX0 1 f fd ["one", "other"] (spF ⟨K, cls⟩ [] 2 f_inside) := by
  have sc := scinside
  refine fn_fl F sc (fun cdv A outer s H E hr => ?_) 2 2
  exact (fss_one (fs_ret (fe_eq hr (fe_band (fe_var 0) (fe_var 1)) (fe_var 0))))
theorem scbelow : FnScope ["order", "many", "one", "point"] ["order"] (defScope sbelow) := ⟨rfl, rfl, rfl, by decide +kernel, rfl, by decide +kernel, by decide +kernel⟩
theorem okbelow {f : Addr} {fd : FuncData} (F : Fun K "below" "below" sbelow f fd) (T : Txt mg) (Cbits_of : Cal P w K mg base ⟨K, cls⟩ 1 "bits_of" ["numbers"] [] 1 f_bits_of) (Chas : Cal P w K mg base ⟨K, cls⟩ 1 "has" ["bits", "number"] [] 2 f_has) : FnOk P w K mg base CX0 2 f fd ["order"] (spF ⟨K, cls⟩ [] 1 f_below) := by
  have sc := scbelow
  refine fn_fl F sc (fun cdv A outer s H E hr => ?_) 1 4
  exact (fss_cons (fs_set 1 sc.nd (fe_len T.b_len (fa_cons (fe_var 0) fa_nil)))
  (fss_one (fs_ret (fe_tuple T.b_tuple (fa_cons (fe_lc (own := [("point", 3)]) sc.nd (fi_range1 (by rfl) T.b_range (fa_cons (fe_var 1) fa_nil)) (blkOk_by (by kernel_rfl)) (fun _ _ _ _ _ => (pg_name (i := 3) sc.nd rfl (by first | exact .inl rfl | exact .inr rfl))) (fun _ _ _ _ _ => fts_nil) (fun _ _ _ _ _ => (fe_calC Cbits_of (hr.mono (by decide)) (fa_cons (fe_frzE (fe_lc (own := [("one", 2)]) sc.nd (fi_range1 (by rfl) T.b_range (fa_cons (fe_var 1) fa_nil)) (blkOk_by (by kernel_rfl)) (fun _ _ _ _ _ => (pg_name (i := 2) sc.nd rfl (by first | exact .inl rfl | exact .inr rfl))) (fun _ _ _ _ _ => (fts_one (ft_tru (fe_calC Chas (hr.mono (by decide)) (fa_cons (fe_at (fe_var 0) (fe_var 2)) (fa_cons (fe_var 3) fa_nil)))))) (fun _ _ _ _ _ => (fe_var 2)))) fa_nil)))) fa_nil)))))
theorem sccovers : FnScope ["order", "found", "downs", "one", "other"] ["order"] (defScope scovers) := ⟨rfl, rfl, rfl, by decide +kernel, rfl, by decide +kernel, by decide +kernel⟩
theorem okcovers {f : Addr} {fd : FuncData} (F : Fun K "covers" "covers" scovers f fd) (T : Txt mg) (Cmembers : Cal P w K mg base ⟨K, cls⟩ 1 "members" ["bits"] [] 1 f_members) (Cbelow : Cal P w K mg base ⟨K, cls⟩ 2 "below" ["order"] [] 1 f_below) : FnOk P w K mg base CX0 3 f fd ["order"] (spF ⟨K, cls⟩ [] 1 f_covers) := by
  have sc := sccovers
  refine fn_fl F sc (fun cdv A outer s H E hr => ?_) 1 5
  exact (fss_cons (fs_set 1 sc.nd (fe_lstO fa_nil))
  (fss_cons (fs_set 2 sc.nd (fe_calC Cbelow (hr.mono (by decide)) (fa_cons (fe_var 0) fa_nil)))
  (fss_cons (fs_for (fi_range1 (by rfl) T.b_range (fa_cons (fe_len T.b_len (fa_cons (fe_var 0) fa_nil)) fa_nil)) (pg_name (i := 3) sc.nd rfl (by first | exact .inl rfl | exact .inr rfl))
  (fss_one (fs_for (fi_seq rfl (fe_calC Cmembers (hr.mono (by decide)) (fa_cons (fe_at (fe_var 0) (fe_var 3)) fa_nil))) (pg_name (i := 4) sc.nd rfl (by first | exact .inl rfl | exact .inr rfl))
  (fss_one (fs_if (PW.pt (fw_and (ft_ne hr (fe_var 3) (fe_var 4)) (fw_and1 (ft_eq hr (fe_band (fe_at (fe_var 0) (fe_var 3)) (fe_at (fe_var 2) (fe_var 4))) (fe_bor (fe_shl fe_int (fe_var 3)) (fe_shl fe_int (fe_var 4)))))))
  (fss_one (fs_expr (fe_append (pv 1) (fa_one (fe_tup (fa_cons (fe_var 3) (fa_cons (fe_var 4) fa_nil)))))))
  fss_nil)))))
  (fss_one (fs_ret (fe_tuple T.b_tuple (fa_cons (fe_var 1) fa_nil)))))))
theorem scpart_of : FnScope ["order", "points", "at", "other", "point"] ["order", "points"] (defScope spart_of) := ⟨rfl, rfl, rfl, by decide +kernel, rfl, by decide +kernel, by decide +kernel⟩
theorem okpart_of {f : Addr} {fd : FuncData} (F : Fun K "part_of" "part_of" spart_of f fd) (T : Txt mg) (Cbits_of : Cal P w K mg base ⟨K, cls⟩ 1 "bits_of" ["numbers"] [] 1 f_bits_of) (Chas : Cal P w K mg base ⟨K, cls⟩ 1 "has" ["bits", "number"] [] 2 f_has) : FnOk P w K mg base CX0 2 f fd ["order", "points"] (spF ⟨K, cls⟩ [] 2 f_part_of) := by
  have sc := scpart_of
  refine fn_fl F sc (fun cdv A outer s H E hr => ?_) 2 5
  exact (fss_one (fs_ret (fe_tuple T.b_tuple (fa_cons (fe_lc (own := [("point", 4)]) sc.nd (fi_seq rfl (fe_var 1)) (blkOk_by (by kernel_rfl)) (fun _ _ _ _ _ => (pg_name (i := 4) sc.nd rfl (by first | exact .inl rfl | exact .inr rfl))) (fun _ _ _ _ _ => fts_nil) (fun _ _ _ _ _ => (fe_calC Cbits_of (hr.mono (by decide)) (fa_cons (fe_frzE (fe_lc (own := [("at", 2), ("other", 3)]) sc.nd (fi_enum rfl (by rfl) T.b_enumerate (fa_cons (fe_var 1) fa_nil)) (blkOk_by (by kernel_rfl)) (fun _ _ _ _ _ => (pg_tup rfl (pgs_cons (pg_name (i := 2) sc.nd rfl (by first | exact .inl rfl | exact .inr rfl)) (pgs_cons (pg_name (i := 3) sc.nd rfl (by first | exact .inl rfl | exact .inr rfl)) pgs_nil)))) (fun _ _ _ _ _ => (fts_one (ft_tru (fe_calC Chas (hr.mono (by decide)) (fa_cons (fe_at (fe_var 0) (fe_var 4)) (fa_cons (fe_var 3) fa_nil)))))) (fun _ _ _ _ _ => (fe_var 2)))) fa_nil)))) fa_nil))))
theorem scbetween : FnScope ["order", "one", "other", "downs"] ["order", "one", "other"] (defScope sbetween) := ⟨rfl, rfl, rfl, by decide +kernel, rfl, by decide +kernel, by decide +kernel⟩
theorem okbetween {f : Addr} {fd : FuncData} (F : Fun K "between" "between" sbetween f fd) (T : Txt mg) (Cmembers : Cal P w K mg base ⟨K, cls⟩ 1 "members" ["bits"] [] 1 f_members) (Cbelow : Cal P w K mg base ⟨K, cls⟩ 2 "below" ["order"] [] 1 f_below) : FnOk P w K mg base CX0 3 f fd ["order", "one", "other"] (spF ⟨K, cls⟩ [] 3 f_between) := by
  have sc := scbetween
  refine fn_fl F sc (fun cdv A outer s H E hr => ?_) 3 4
  exact (fss_cons (fs_set 3 sc.nd (fe_calC Cbelow (hr.mono (by decide)) (fa_cons (fe_var 0) fa_nil)))
  (fss_one (fs_ret (fe_calC Cmembers (hr.mono (by decide)) (fa_cons (fe_band (fe_at (fe_var 0) (fe_var 1)) (fe_at (fe_var 3) (fe_var 2))) fa_nil)))))
theorem scmoebius_table : FnScope ["order", "many", "found", "point", "downs", "one", "row", "size", "other"] ["order"] (defScope smoebius_table) := ⟨rfl, rfl, rfl, by decide +kernel, rfl, by decide +kernel, by decide +kernel⟩
theorem okmoebius_table {f : Addr} {fd : FuncData} (F : Fun K "moebius_table" "moebius_table" smoebius_table f fd) (T : Txt mg) (Cmembers : Cal P w K mg base ⟨K, cls⟩ 1 "members" ["bits"] [] 1 f_members) (Ccount : Cal P w K mg base ⟨K, cls⟩ 1 "count" ["bits"] [] 1 f_count) (Cbelow : Cal P w K mg base ⟨K, cls⟩ 2 "below" ["order"] [] 1 f_below) (Cbetween : Cal P w K mg base ⟨K, cls⟩ 3 "between" ["order", "one", "other"] [] 3 f_between) : FnOk P w K mg base CX0 4 f fd ["order"] (spF ⟨K, cls⟩ [] 1 f_moebius_table) := by
  have sc := scmoebius_table
  refine fn_fl F sc (fun cdv A outer s H E hr => ?_) 1 9
  exact (fss_cons (fs_set 1 sc.nd (fe_len T.b_len (fa_cons (fe_var 0) fa_nil)))
  (fss_cons (fs_set 2 sc.nd (fe_lc (own := [("point", 3)]) sc.nd (fi_range1 (by rfl) T.b_range (fa_cons (fe_var 1) fa_nil)) (blkOk_by (by kernel_rfl)) (fun _ _ _ _ _ => (pg_name (i := 3) sc.nd rfl (by first | exact .inl rfl | exact .inr rfl))) (fun _ _ _ _ _ => fts_nil) (fun _ _ _ _ _ => (fe_rep (fe_lstO (fa_cons fe_int fa_nil)) (fe_var 1)))))
  (fss_cons (fs_set 4 sc.nd (fe_calC Cbelow (hr.mono (by decide)) (fa_cons (fe_var 0) fa_nil)))
  (fss_cons (fs_for (fi_range1 (by rfl) T.b_range (fa_cons (fe_var 1) fa_nil)) (pg_name (i := 5) sc.nd rfl (by first | exact .inl rfl | exact .inr rfl))
  (fss_cons (fs_setIx2 fe_int (pv 2) (pv 5) (pv 5))
  (fss_cons (fs_set 6 sc.nd (fe_frzE (fe_sortP T.b_sorted (fa_cons (fe_lc (own := [("point", 3)]) sc.nd (fi_seq rfl (fe_calC Cmembers (hr.mono (by decide)) (fa_cons (fe_at (fe_var 0) (fe_var 5)) fa_nil))) (blkOk_by (by kernel_rfl)) (fun _ _ _ _ _ => (pg_name (i := 3) sc.nd rfl (by first | exact .inl rfl | exact .inr rfl))) (fun _ _ _ _ _ => fts_nil) (fun _ _ _ _ _ => (fe_tup (fa_cons (fe_calC Ccount (hr.mono (by decide)) (fa_cons (fe_band (fe_at (fe_var 4) (fe_var 3)) (fe_at (fe_var 0) (fe_var 5))) fa_nil)) (fa_cons (fe_var 3) fa_nil))))) fa_nil))))
  (fss_one (fs_for (fi_seq rfl (fe_var 6)) (pg_tup rfl (pgs_cons (pg_name (i := 7) sc.nd rfl (by first | exact .inl rfl | exact .inr rfl)) (pgs_cons (pg_name (i := 8) sc.nd rfl (by first | exact .inl rfl | exact .inr rfl)) pgs_nil)))
  (fss_one (fs_if (ft_ne hr (fe_var 8) (fe_var 5))
  (fss_one (fs_setIx2 (fe_neg (fe_sum T.b_sum (fa_cons (fe_lc (own := [("point", 3)]) sc.nd (fi_seq rfl (fe_calC Cbetween (hr.mono (by decide)) (fa_cons (fe_var 0) (fa_cons (fe_var 5) (fa_cons (fe_var 8) fa_nil))))) (blkOk_by (by kernel_rfl)) (fun _ _ _ _ _ => (pg_name (i := 3) sc.nd rfl (by first | exact .inl rfl | exact .inr rfl))) (fun _ _ _ _ _ => (fts_one (ft_ne hr (fe_var 3) (fe_var 8)))) (fun _ _ _ _ _ => (fe_ix2 (pv 2) (pv 5) (pv 3)))) fa_nil))) (pv 2) (pv 5) (pv 8)))
  fss_nil)))))))
  (fss_one (fs_ret (fe_tuple T.b_tuple (fa_cons (fe_lc (own := [("row", 6)]) sc.nd (fi_seq rfl (fe_fz 2)) (blkOk_by (by kernel_rfl)) (fun _ _ _ _ _ => (pg_name (i := 6) sc.nd rfl (by first | exact .inl rfl | exact .inr rfl))) (fun _ _ _ _ _ => fts_nil) (fun _ _ _ _ _ => (fe_tuple T.b_tuple (fa_cons (fe_var 6) fa_nil)))) fa_nil))))))))
theorem sceuler_number : FnScope ["order", "total", "ways", "sign", "other", "point"] ["order"] (defScope seuler_number) := ⟨rfl, rfl, rfl, by decide +kernel, rfl, by decide +kernel, by decide +kernel⟩
theorem okeuler_number {f : Addr} {fd : FuncData} (F : Fun K "euler_number" "euler_number" seuler_number f fd) (T : Txt mg) (Cmembers : Cal P w K mg base ⟨K, cls⟩ 1 "members" ["bits"] [] 1 f_members) : FnOk P w K mg base CX0 2 f fd ["order"] (spF ⟨K, cls⟩ [] 1 f_euler_number) := by
  have sc := sceuler_number
  refine fn_fl F sc (fun cdv A outer s H E hr => ?_) 1 6
  exact (fss_cons (fs_set 1 sc.nd fe_int)
  (fss_cons (fs_set 2 sc.nd (fe_frzE (fe_rep (fe_lstO (fa_cons fe_int fa_nil)) (fe_len T.b_len (fa_cons (fe_var 0) fa_nil)))))
  (fss_cons (fs_set 3 sc.nd fe_int)
  (fss_cons (fs_while (fun ρ => lenAt ρ 0 + 1) (ft_tru (fe_anyZ T.b_any (fa_cons (fe_var 2) fa_nil)))
  (fss_cons (fs_augAdd 1 sc.nd (fe_mul (fe_var 3) (fe_sum T.b_sum (fa_cons (fe_var 2) fa_nil))))
  (fss_cons (fs_set 3 sc.nd (fe_neg (fe_var 3)))
  (fss_one (fs_set 2 sc.nd (fe_frzE (fe_lc (own := [("point", 5)]) sc.nd (fi_range1 (by rfl) T.b_range (fa_cons (fe_len T.b_len (fa_cons (fe_var 0) fa_nil)) fa_nil)) (blkOk_by (by kernel_rfl)) (fun _ _ _ _ _ => (pg_name (i := 5) sc.nd rfl (by first | exact .inl rfl | exact .inr rfl))) (fun _ _ _ _ _ => fts_nil) (fun _ _ _ _ _ => (fe_sum T.b_sum (fa_cons (fe_lc (own := [("other", 4)]) sc.nd (fi_seq rfl (fe_calC Cmembers (hr.mono (by decide)) (fa_cons (fe_at (fe_var 0) (fe_var 5)) fa_nil))) (blkOk_by (by kernel_rfl)) (fun _ _ _ _ _ => (pg_name (i := 4) sc.nd rfl (by first | exact .inl rfl | exact .inr rfl))) (fun _ _ _ _ _ => (fts_one (ft_ne hr (fe_var 4) (fe_var 5)))) (fun _ _ _ _ _ => (fe_at (fe_var 2) (fe_var 4)))) fa_nil))))))))))
  (fss_one (fs_ret (fe_var 1)))))))
theorem scleast_of : FnScope ["order", "bits", "point"] ["order", "bits"] (defScope sleast_of) := ⟨rfl, rfl, rfl, by decide +kernel, rfl, by decide +kernel, by decide +kernel⟩
theorem okleast_of {f : Addr} {fd : FuncData} (F : Fun K "least_of" "least_of" sleast_of f fd) (T : Txt mg) (Cmembers : Cal P w K mg base ⟨K, cls⟩ 1 "members" ["bits"] [] 1 f_members) (Cinside : Cal P w K mg base ⟨K, cls⟩ 1 "inside" ["one", "other"] [] 2 f_inside) : FnOk P w K mg base CX0 2 f fd ["order", "bits"] (spF ⟨K, cls⟩ [] 2 f_least_of) := by
  have sc := scleast_of
  refine fn_fl F sc (fun cdv A outer s H E hr => ?_) 2 3
  exact (fss_cons (fs_for (fi_seq rfl (fe_calC Cmembers (hr.mono (by decide)) (fa_cons (fe_var 1) fa_nil))) (pg_name (i := 2) sc.nd rfl (by first | exact .inl rfl | exact .inr rfl))
  (fss_one (fs_if (ft_tru (fe_calC Cinside (hr.mono (by decide)) (fa_cons (fe_var 1) (fa_cons (fe_at (fe_var 0) (fe_var 2)) fa_nil))))
  (fss_one (fs_ret (fe_var 2)))
  fss_nil)))
  (fss_one (fs_ret fe_non)))
theorem sclattice_paper : FnScope ["order", "many", "downs", "joins", "other", "one", "meets", "row"] ["order"] (defScope slattice_paper) := ⟨rfl, rfl, rfl, by decide +kernel, rfl, by decide +kernel, by decide +kernel⟩
theorem oklattice_paper {f : Addr} {fd : FuncData} (F : Fun K "lattice_paper" "lattice_paper" slattice_paper f fd) (T : Txt mg) (Cbelow : Cal P w K mg base ⟨K, cls⟩ 2 "below" ["order"] [] 1 f_below) (Cleast_of : Cal P w K mg base ⟨K, cls⟩ 2 "least_of" ["order", "bits"] [] 2 f_least_of) : FnOk P w K mg base CX0 3 f fd ["order"] (spF ⟨K, cls⟩ [] 1 f_lattice_paper) := by
  have sc := sclattice_paper
  refine fn_fl F sc (fun cdv A outer s H E hr => ?_) 1 8
  exact (fss_cons (fs_if (ft_eq hr (fe_len T.b_len (fa_cons (fe_var 0) fa_nil)) fe_int)
  (fss_one fs_bad)
  fss_nil)
  (fss_cons (fs_set 1 sc.nd (fe_rg T.b_range (fe_len T.b_len (fa_cons (fe_var 0) fa_nil))))
  (fss_cons (fs_set 2 sc.nd (fe_calC Cbelow (hr.mono (by decide)) (fa_cons (fe_var 0) fa_nil)))
  (fss_cons (fs_setLcF 3 (own := [("one", 5)]) sc.nd (fi_rg (fe_var 1)) (blkOk_by (by kernel_rfl)) (fun _ _ _ _ _ => (pg_name (i := 5) sc.nd rfl (by first | exact .inl rfl | exact .inr rfl))) (fun _ _ _ _ _ => fts_nil) (fun _ _ _ _ _ => (fe_frzE (fe_lc (own := [("other", 4)]) sc.nd (fi_rg (fe_var 1)) (blkOk_by (by kernel_rfl)) (fun _ _ _ _ _ => (pg_name (i := 4) sc.nd rfl (by first | exact .inl rfl | exact .inr rfl))) (fun _ _ _ _ _ => fts_nil) (fun _ _ _ _ _ => (fe_calC Cleast_of (hr.mono (by decide)) (fa_cons (fe_var 0) (fa_cons (fe_band (fe_at (fe_var 0) (fe_var 5)) (fe_at (fe_var 0) (fe_var 4))) fa_nil))))))))
  (fss_cons (fs_setLcF 6 (own := [("one", 5)]) sc.nd (fi_rg (fe_var 1)) (blkOk_by (by kernel_rfl)) (fun _ _ _ _ _ => (pg_name (i := 5) sc.nd rfl (by first | exact .inl rfl | exact .inr rfl))) (fun _ _ _ _ _ => fts_nil) (fun _ _ _ _ _ => (fe_frzE (fe_lc (own := [("other", 4)]) sc.nd (fi_rg (fe_var 1)) (blkOk_by (by kernel_rfl)) (fun _ _ _ _ _ => (pg_name (i := 4) sc.nd rfl (by first | exact .inl rfl | exact .inr rfl))) (fun _ _ _ _ _ => fts_nil) (fun _ _ _ _ _ => (fe_calC Cleast_of (hr.mono (by decide)) (fa_cons (fe_var 2) (fa_cons (fe_band (fe_at (fe_var 2) (fe_var 5)) (fe_at (fe_var 2) (fe_var 4))) fa_nil))))))))
  (fss_cons (fs_for (fi_rg (fe_var 1)) (pg_name (i := 5) sc.nd rfl (by first | exact .inl rfl | exact .inr rfl))
  (fss_one (fs_for (fi_rg (fe_var 1)) (pg_name (i := 4) sc.nd rfl (by first | exact .inl rfl | exact .inr rfl))
  (fss_cons (fs_if (ft_isN (fe_at (fe_at (fe_var 3) (fe_var 5)) (fe_var 4)) fe_non)
  (fss_one (fs_ret (fe_tup (fa_cons fe_str (fa_cons (fe_var 5) (fa_cons (fe_var 4) fa_nil))))))
  fss_nil)
  (fss_one (fs_if (ft_isN (fe_at (fe_at (fe_var 6) (fe_var 5)) (fe_var 4)) fe_non)
  (fss_one (fs_ret (fe_tup (fa_cons fe_str (fa_cons (fe_var 5) (fa_cons (fe_var 4) fa_nil))))))
  fss_nil))))))
  (fss_one (fs_ret (fe_tup (fa_cons fe_str (fa_cons (fe_tuple T.b_tuple (fa_cons (fe_lc (own := [("row", 7)]) sc.nd (fi_seq rfl (fe_var 6)) (blkOk_by (by kernel_rfl)) (fun _ _ _ _ _ => (pg_name (i := 7) sc.nd rfl (by first | exact .inl rfl | exact .inr rfl))) (fun _ _ _ _ _ => fts_nil) (fun _ _ _ _ _ => (fe_tuple T.b_tuple (fa_cons (fe_var 7) fa_nil)))) fa_nil)) (fa_cons (fe_tuple T.b_tuple (fa_cons (fe_lc (own := [("row", 7)]) sc.nd (fi_seq rfl (fe_var 3)) (blkOk_by (by kernel_rfl)) (fun _ _ _ _ _ => (pg_name (i := 7) sc.nd rfl (by first | exact .inl rfl | exact .inr rfl))) (fun _ _ _ _ _ => fts_nil) (fun _ _ _ _ _ => (fe_tuple T.b_tuple (fa_cons (fe_var 7) fa_nil)))) fa_nil)) fa_nil))))))))))))
theorem sctables_of : FnScope ["order", "paper"] ["order"] (defScope stables_of) := ⟨rfl, rfl, rfl, by decide +kernel, rfl, by decide +kernel, by decide +kernel⟩
theorem oktables_of {f : Addr} {fd : FuncData} (F : Fun K "tables_of" "tables_of" stables_of f fd) (T : Txt mg) (Clattice_paper : Cal P w K mg base ⟨K, cls⟩ 3 "lattice_paper" ["order"] [] 1 f_lattice_paper) : FnOk P w K mg base CX0 4 f fd ["order"] (spF ⟨K, cls⟩ [] 1 f_tables_of) := by
  have sc := sctables_of
  refine fn_fl F sc (fun cdv A outer s H E hr => ?_) 1 2
  exact (fss_cons (fs_set 1 sc.nd (fe_calC Clattice_paper (hr.mono (by decide)) (fa_cons (fe_var 0) fa_nil)))
  (fss_cons (fs_if (ft_ne hr (fe_at (fe_var 1) fe_int) fe_str)
  (fss_one fs_bad)
  fss_nil)
  (fss_one (fs_ret (fe_tup (fa_cons (fe_at (fe_var 1) fe_int) (fa_cons (fe_at (fe_var 1) fe_int) fa_nil)))))))
theorem scbottom : FnScope ["order"] ["order"] (defScope sbottom) := ⟨rfl, rfl, rfl, by decide +kernel, rfl, by decide +kernel, by decide +kernel⟩
theorem okbottom {f : Addr} {fd : FuncData} (F : Fun K "bottom" "bottom" sbottom f fd) (T : Txt mg) (Cfull : Cal P w K mg base ⟨K, cls⟩ 1 "full" ["many"] [] 1 f_full) (Cleast_of : Cal P w K mg base ⟨K, cls⟩ 2 "least_of" ["order", "bits"] [] 2 f_least_of) : FnOk P w K mg base CX0 3 f fd ["order"] (spF ⟨K, cls⟩ [] 1 f_bottom) := by
  have sc := scbottom
  refine fn_fl F sc (fun cdv A outer s H E hr => ?_) 1 1
  exact (fss_one (fs_ret (fe_calC Cleast_of (hr.mono (by decide)) (fa_cons (fe_var 0) (fa_cons (fe_calC Cfull (hr.mono (by decide)) (fa_cons (fe_len T.b_len (fa_cons (fe_var 0) fa_nil)) fa_nil)) fa_nil)))))
theorem sctop : FnScope ["order"] ["order"] (defScope stop) := ⟨rfl, rfl, rfl, by decide +kernel, rfl, by decide +kernel, by decide +kernel⟩
theorem oktop {f : Addr} {fd : FuncData} (F : Fun K "top" "top" stop f fd) (T : Txt mg) (Cfull : Cal P w K mg base ⟨K, cls⟩ 1 "full" ["many"] [] 1 f_full) (Cbelow : Cal P w K mg base ⟨K, cls⟩ 2 "below" ["order"] [] 1 f_below) (Cleast_of : Cal P w K mg base ⟨K, cls⟩ 2 "least_of" ["order", "bits"] [] 2 f_least_of) : FnOk P w K mg base CX0 3 f fd ["order"] (spF ⟨K, cls⟩ [] 1 f_top) := by
  have sc := sctop
  refine fn_fl F sc (fun cdv A outer s H E hr => ?_) 1 1
  exact (fss_one (fs_ret (fe_calC Cleast_of (hr.mono (by decide)) (fa_cons (fe_calC Cbelow (hr.mono (by decide)) (fa_cons (fe_var 0) fa_nil)) (fa_cons (fe_calC Cfull (hr.mono (by decide)) (fa_cons (fe_len T.b_len (fa_cons (fe_var 0) fa_nil)) fa_nil)) fa_nil)))))
theorem scatoms : FnScope ["order", "low", "one", "other"] ["order"] (defScope satoms) := ⟨rfl, rfl, rfl, by decide +kernel, rfl, by decide +kernel, by decide +kernel⟩
theorem okatoms {f : Addr} {fd : FuncData} (F : Fun K "atoms" "atoms" satoms f fd) (T : Txt mg) (Ccovers : Cal P w K mg base ⟨K, cls⟩ 3 "covers" ["order"] [] 1 f_covers) (Cbottom : Cal P w K mg base ⟨K, cls⟩ 3 "bottom" ["order"] [] 1 f_bottom) : FnOk P w K mg base CX0 4 f fd ["order"] (spF ⟨K, cls⟩ [] 1 f_atoms) := by
  have sc := scatoms
  refine fn_fl F sc (fun cdv A outer s H E hr => ?_) 1 4
  exact (fss_cons (fs_set 1 sc.nd (fe_calC Cbottom (hr.mono (by decide)) (fa_cons (fe_var 0) fa_nil)))
  (fss_one (fs_ret (fe_tuple T.b_tuple (fa_cons (fe_lc (own := [("one", 2), ("other", 3)]) sc.nd (fi_seq rfl (fe_calC Ccovers (hr.mono (by decide)) (fa_cons (fe_var 0) fa_nil))) (blkOk_by (by kernel_rfl)) (fun _ _ _ _ _ => (pg_tup rfl (pgs_cons (pg_name (i := 2) sc.nd rfl (by first | exact .inl rfl | exact .inr rfl)) (pgs_cons (pg_name (i := 3) sc.nd rfl (by first | exact .inl rfl | exact .inr rfl)) pgs_nil)))) (fun _ _ _ _ _ => (fts_one (ft_eq hr (fe_var 2) (fe_var 1)))) (fun _ _ _ _ _ => (fe_var 3))) fa_nil)))))
theorem sc_law_begin : FnScope ["script", "seed", "cell"] ["script"] (defScope s_law_begin) := ⟨rfl, rfl, rfl, by decide +kernel, rfl, by decide +kernel, by decide +kernel⟩
theorem ok_law_begin {f : Addr} {fd : FuncData} (F : Fun K "_law_begin" "_law_begin" s_law_begin f fd) (T : Txt mg)  : FnOk P w K mg base CX0 1 f fd ["script"] (spF ⟨K, cls⟩ [] 1 f_law_begin) := by
  have sc := sc_law_begin
  refine fn_fl F sc (fun cdv A outer s H E hr => ?_) 1 3
  exact (fss_cons (fs_set 1 sc.nd fe_int)
  (fss_cons (fs_for (fi_seq rfl (fe_var 0)) (pg_name (i := 2) sc.nd rfl (by first | exact .inl rfl | exact .inr rfl))
  (fss_one (fs_set 1 sc.nd (fe_mod (fe_add (fe_add (fe_mul (fe_var 1) fe_int) (fe_mod (fe_intT T.b_int (fa_cons (fe_var 2) fa_nil)) fe_int)) fe_int) fe_int))))
  (fss_one (fs_ret (fe_lstO (fa_cons (fe_frzE (fe_list T.b_list (fa_cons (fe_var 0) fa_nil))) (fa_cons fe_int (fa_cons fe_int (fa_cons (fe_var 1) fa_nil)))))))))
theorem sc_law_take : FnScope ["d", "many", "small", "digit"] ["d", "many"] (defScope s_law_take) := ⟨rfl, rfl, rfl, by decide +kernel, rfl, by decide +kernel, by decide +kernel⟩
theorem ok_law_take {f : Addr} {fd : FuncData} (F : Fun K "_law_take" "_law_take" s_law_take f fd) (T : Txt mg)  : FnOk P w K mg base CX0 1 f fd ["d", "many"] (spF ⟨K, cls⟩ [0] 2 f_law_take) := by
  have sc := sc_law_take
  refine fn_fl F sc (fun cdv A outer s H E hr => ?_) 2 4
  exact (fss_cons (fs_if (PW.pt (fw_and (ft_eq hr (fe_at (fe_var 0) fe_int) fe_int) (fw_and1 (ft_lt (fe_at (fe_var 0) fe_int) (fe_len T.b_len (fa_cons (fe_at (fe_var 0) fe_int) fa_nil))))))
  (fss_cons (fs_setIx (fe_absB T.b_abs (fa_cons (fe_intT T.b_int (fa_cons (fe_at (fe_at (fe_var 0) fe_int) (fe_at (fe_var 0) fe_int)) fa_nil)) fa_nil)) (pv 0) fe_int)
  (fss_cons (fs_setIx (fe_add (fe_at (fe_var 0) fe_int) fe_int) (pv 0) fe_int)
  (fss_one (fs_if (ft_lt (fe_at (fe_var 0) fe_int) (fe_pow fe_int fe_int))
  (fss_cons (fs_set 2 sc.nd (fe_intT T.b_int (fa_cons (fe_at (fe_var 0) fe_int) fa_nil)))
  (fss_cons (fs_setIx fe_int (pv 0) fe_int)
  (fss_one (fs_ret (fe_mod (fe_var 2) (fe_var 1))))))
  fss_nil))))
  fss_nil)
  (fss_cons (fs_if (ft_gt (fe_at (fe_var 0) fe_int) fe_int)
  (fss_cons (fs_set 3 sc.nd (fe_mod (fe_intT T.b_int (fa_cons (fe_at (fe_var 0) fe_int) fa_nil)) (fe_var 1)))
  (fss_cons (fs_setIx (fe_div (fe_intT T.b_int (fa_cons (fe_at (fe_var 0) fe_int) fa_nil)) (fe_var 1)) (pv 0) fe_int)
  (fss_one (fs_ret (fe_var 3)))))
  fss_nil)
  (fss_cons (fs_setIx (fe_mod (fe_intT T.b_int (fa_cons (fe_add (fe_mul (fe_at (fe_var 0) fe_int) fe_int) fe_int) fa_nil)) fe_int) (pv 0) fe_int)
  (fss_one (fs_ret (fe_mod (fe_intT T.b_int (fa_cons (fe_div (fe_at (fe_var 0) fe_int) fe_int) fa_nil)) (fe_var 1)))))))
theorem sc_law_bit : FnScope ["x", "found", "k"] ["x"] (defScope s_law_bit) := ⟨rfl, rfl, rfl, by decide +kernel, rfl, by decide +kernel, by decide +kernel⟩
theorem ok_law_bit {f : Addr} {fd : FuncData} (F : Fun K "_law_bit" "_law_bit" s_law_bit f fd) (T : Txt mg)  : FnOk P w K mg base CX0 1 f fd ["x"] (spF ⟨K, cls⟩ [] 1 f_law_bit) := by
  have sc := sc_law_bit
  refine fn_fl F sc (fun cdv A outer s H E hr => ?_) 1 3
  exact (fss_cons (fs_set 1 sc.nd fe_int)
  (fss_cons (fs_for (fi_range1 (by rfl) T.b_range (fa_cons (fe_var 0) fa_nil)) (pg_name (i := 2) sc.nd rfl (by first | exact .inl rfl | exact .inr rfl))
  (fss_one (fs_set 1 sc.nd (fe_mul fe_int (fe_var 1)))))
  (fss_one (fs_ret (fe_var 1)))))
theorem sc_law_bits : FnScope ["rows", "found", "x"] ["rows"] (defScope s_law_bits) := ⟨rfl, rfl, rfl, by decide +kernel, rfl, by decide +kernel, by decide +kernel⟩
theorem ok_law_bits {f : Addr} {fd : FuncData} (F : Fun K "_law_bits" "_law_bits" s_law_bits f fd) (T : Txt mg) (C_law_bit : Cal P w K mg base ⟨K, cls⟩ 1 "_law_bit" ["x"] [] 1 f_law_bit) : FnOk P w K mg base CX0 2 f fd ["rows"] (spF ⟨K, cls⟩ [] 1 f_law_bits) := by
  have sc := sc_law_bits
  refine fn_fl F sc (fun cdv A outer s H E hr => ?_) 1 3
  exact (fss_cons (fs_set 1 sc.nd fe_int)
  (fss_cons (fs_for (fi_seq rfl (fe_frzE (fe_sortU T.b_sorted T.b_set (fa_cons (fe_var 0) fa_nil)))) (pg_name (i := 2) sc.nd rfl (by first | exact .inl rfl | exact .inr rfl))
  (fss_one (fs_set 1 sc.nd (fe_add (fe_var 1) (fe_calC C_law_bit (hr.mono (by decide)) (fa_cons (fe_var 2) fa_nil))))))
  (fss_one (fs_ret (fe_var 1)))))
theorem sc_law_close : FnScope ["n", "pairs", "up", "y", "x", "z"] ["n", "pairs"] (defScope s_law_close) := ⟨rfl, rfl, rfl, by decide +kernel, rfl, by decide +kernel, by decide +kernel⟩
theorem ok_law_close {f : Addr} {fd : FuncData} (F : Fun K "_law_close" "_law_close" s_law_close f fd) (T : Txt mg) (C_law_bits : Cal P w K mg base ⟨K, cls⟩ 2 "_law_bits" ["rows"] [] 1 f_law_bits) : FnOk P w K mg base CX0 3 f fd ["n", "pairs"] (spF ⟨K, cls⟩ [] 2 f_law_close) := by
  have sc := sc_law_close
  refine fn_fl F sc (fun cdv A outer s H E hr => ?_) 2 6
  exact (fss_cons (fs_set 2 sc.nd (fe_lc (own := [("x", 4)]) sc.nd (fi_range1 (by rfl) T.b_range (fa_cons (fe_var 0) fa_nil)) (blkOk_by (by kernel_rfl)) (fun _ _ _ _ _ => (pg_name (i := 4) sc.nd rfl (by first | exact .inl rfl | exact .inr rfl))) (fun _ _ _ _ _ => fts_nil) (fun _ _ _ _ _ => (fe_lc (own := [("y", 3)]) sc.nd (fi_range1 (by rfl) T.b_range (fa_cons (fe_var 0) fa_nil)) (blkOk_by (by kernel_rfl)) (fun _ _ _ _ _ => (pg_name (i := 3) sc.nd rfl (by first | exact .inl rfl | exact .inr rfl))) (fun _ _ _ _ _ => fts_nil) (fun _ _ _ _ _ => (fe_eq hr (fe_var 4) (fe_var 3)))))))
  (fss_cons (fs_for (fi_seq rfl (fe_var 1)) (pg_tup rfl (pgs_cons (pg_name (i := 4) sc.nd rfl (by first | exact .inl rfl | exact .inr rfl)) (pgs_cons (pg_name (i := 3) sc.nd rfl (by first | exact .inl rfl | exact .inr rfl)) pgs_nil)))
  (fss_one (fs_setIx2 fe_bl (pv 2) (pv 4) (pv 3))))
  (fss_cons (fs_for (fi_range1 (by rfl) T.b_range (fa_cons (fe_var 0) fa_nil)) (pg_name (i := 5) sc.nd rfl (by first | exact .inl rfl | exact .inr rfl))
  (fss_one (fs_for (fi_range1 (by rfl) T.b_range (fa_cons (fe_var 0) fa_nil)) (pg_name (i := 4) sc.nd rfl (by first | exact .inl rfl | exact .inr rfl))
  (fss_one (fs_for (fi_range1 (by rfl) T.b_range (fa_cons (fe_var 0) fa_nil)) (pg_name (i := 3) sc.nd rfl (by first | exact .inl rfl | exact .inr rfl))
  (fss_one (fs_if (PW.pt (fw_and (ft_tru (fe_ix2 (pv 2) (pv 4) (pv 5))) (fw_and1 (ft_tru (fe_ix2 (pv 2) (pv 5) (pv 3))))))
  (fss_one (fs_setIx2 fe_bl (pv 2) (pv 4) (pv 3)))
  fss_nil)))))))
  (fss_one (fs_ret (fe_tuple T.b_tuple (fa_cons (fe_lc (own := [("x", 4)]) sc.nd (fi_range1 (by rfl) T.b_range (fa_cons (fe_var 0) fa_nil)) (blkOk_by (by kernel_rfl)) (fun _ _ _ _ _ => (pg_name (i := 4) sc.nd rfl (by first | exact .inl rfl | exact .inr rfl))) (fun _ _ _ _ _ => fts_nil) (fun _ _ _ _ _ => (fe_calC C_law_bits (hr.mono (by decide)) (fa_cons (fe_frzE (fe_lc (own := [("y", 3)]) sc.nd (fi_range1 (by rfl) T.b_range (fa_cons (fe_var 0) fa_nil)) (blkOk_by (by kernel_rfl)) (fun _ _ _ _ _ => (pg_name (i := 3) sc.nd rfl (by first | exact .inl rfl | exact .inr rfl))) (fun _ _ _ _ _ => (fts_one (ft_tru (fe_ix2 (pv 2) (pv 4) (pv 3))))) (fun _ _ _ _ _ => (fe_var 3)))) fa_nil)))) fa_nil)))))))
theorem sc_law_inside : FnScope ["a", "b"] ["a", "b"] (defScope s_law_inside) := ⟨rfl, rfl, rfl, by decide +kernel, rfl, by decide +kernel, by decide +kernel⟩
theorem ok_law_inside {f : Addr} {fd : FuncData} (F : Fun K "_law_inside" "_law_inside" s_law_inside f fd) (T : Txt mg)  : FnOk P w K mg base CX0 1 f fd ["a", "b"] (spF ⟨K, cls⟩ [] 2 f_law_inside) := by
  have sc := sc_law_inside
  refine fn_fl F sc (fun cdv A outer s H E hr => ?_) 2 2
  exact (fss_one (fs_ret (fe_eq hr (fe_band (fe_var 0) (fe_var 1)) (fe_var 0))))
theorem sc_law_by_sets : FnScope ["rows", "k", "a"] ["rows"] (defScope s_law_by_sets) := ⟨rfl, rfl, rfl, by decide +kernel, rfl, by decide +kernel, by decide +kernel⟩
theorem ok_law_by_sets {f : Addr} {fd : FuncData} (F : Fun K "_law_by_sets" "_law_by_sets" s_law_by_sets f fd) (T : Txt mg) (C_law_bits : Cal P w K mg base ⟨K, cls⟩ 2 "_law_bits" ["rows"] [] 1 f_law_bits) (C_law_inside : Cal P w K mg base ⟨K, cls⟩ 1 "_law_inside" ["a", "b"] [] 2 f_law_inside) : FnOk P w K mg base CX0 3 f fd ["rows"] (spF ⟨K, cls⟩ [] 1 f_law_by_sets) := by
  have sc := sc_law_by_sets
  refine fn_fl F sc (fun cdv A outer s H E hr => ?_) 1 3
  exact (fss_one (fs_ret (fe_tuple T.b_tuple (fa_cons (fe_lc (own := [("a", 2)]) sc.nd (fi_seq rfl (fe_var 0)) (blkOk_by (by kernel_rfl)) (fun _ _ _ _ _ => (pg_name (i := 2) sc.nd rfl (by first | exact .inl rfl | exact .inr rfl))) (fun _ _ _ _ _ => fts_nil) (fun _ _ _ _ _ => (fe_calC C_law_bits (hr.mono (by decide)) (fa_cons (fe_frzE (fe_lc (own := [("k", 1)]) sc.nd (fi_range1 (by rfl) T.b_range (fa_cons (fe_len T.b_len (fa_cons (fe_var 0) fa_nil)) fa_nil)) (blkOk_by (by kernel_rfl)) (fun _ _ _ _ _ => (pg_name (i := 1) sc.nd rfl (by first | exact .inl rfl | exact .inr rfl))) (fun _ _ _ _ _ => (fts_one (ft_tru (fe_calC C_law_inside (hr.mono (by decide)) (fa_cons (fe_var 2) (fa_cons (fe_at (fe_var 0) (fe_var 1)) fa_nil)))))) (fun _ _ _ _ _ => (fe_var 1)))) fa_nil)))) fa_nil))))
theorem sc_law_has : FnScope ["bits", "x"] ["bits", "x"] (defScope s_law_has) := ⟨rfl, rfl, rfl, by decide +kernel, rfl, by decide +kernel, by decide +kernel⟩
theorem ok_law_has {f : Addr} {fd : FuncData} (F : Fun K "_law_has" "_law_has" s_law_has f fd) (T : Txt mg) (C_law_bit : Cal P w K mg base ⟨K, cls⟩ 1 "_law_bit" ["x"] [] 1 f_law_bit) : FnOk P w K mg base CX0 2 f fd ["bits", "x"] (spF ⟨K, cls⟩ [] 2 f_law_has) := by
  have sc := sc_law_has
  refine fn_fl F sc (fun cdv A outer s H E hr => ?_) 2 2
  exact (fss_one (fs_ret (fe_eq hr (fe_mod (fe_intT T.b_int (fa_cons (fe_div (fe_var 0) (fe_calC C_law_bit (hr.mono (by decide)) (fa_cons (fe_var 1) fa_nil))) fa_nil)) fe_int) fe_int)))
theorem sc_law_downs : FnScope ["order", "n", "x", "y"] ["order"] (defScope s_law_downs) := ⟨rfl, rfl, rfl, by decide +kernel, rfl, by decide +kernel, by decide +kernel⟩
theorem ok_law_downs {f : Addr} {fd : FuncData} (F : Fun K "_law_downs" "_law_downs" s_law_downs f fd) (T : Txt mg) (C_law_bits : Cal P w K mg base ⟨K, cls⟩ 2 "_law_bits" ["rows"] [] 1 f_law_bits) (C_law_has : Cal P w K mg base ⟨K, cls⟩ 2 "_law_has" ["bits", "x"] [] 2 f_law_has) : FnOk P w K mg base CX0 3 f fd ["order"] (spF ⟨K, cls⟩ [] 1 f_law_downs) := by
  have sc := sc_law_downs
  refine fn_fl F sc (fun cdv A outer s H E hr => ?_) 1 4
  exact (fss_cons (fs_set 1 sc.nd (fe_len T.b_len (fa_cons (fe_var 0) fa_nil)))
  (fss_one (fs_ret (fe_tuple T.b_tuple (fa_cons (fe_lc (own := [("y", 3)]) sc.nd (fi_range1 (by rfl) T.b_range (fa_cons (fe_var 1) fa_nil)) (blkOk_by (by kernel_rfl)) (fun _ _ _ _ _ => (pg_name (i := 3) sc.nd rfl (by first | exact .inl rfl | exact .inr rfl))) (fun _ _ _ _ _ => fts_nil) (fun _ _ _ _ _ => (fe_calC C_law_bits (hr.mono (by decide)) (fa_cons (fe_frzE (fe_lc (own := [("x", 2)]) sc.nd (fi_range1 (by rfl) T.b_range (fa_cons (fe_var 1) fa_nil)) (blkOk_by (by kernel_rfl)) (fun _ _ _ _ _ => (pg_name (i := 2) sc.nd rfl (by first | exact .inl rfl | exact .inr rfl))) (fun _ _ _ _ _ => (fts_one (ft_tru (fe_calC C_law_has (hr.mono (by decide)) (fa_cons (fe_at (fe_var 0) (fe_var 2)) (fa_cons (fe_var 3) fa_nil)))))) (fun _ _ _ _ _ => (fe_var 2)))) fa_nil)))) fa_nil)))))
theorem sc_law_members : FnScope ["bits", "found", "x"] ["bits"] (defScope s_law_members) := ⟨rfl, rfl, rfl, by decide +kernel, rfl, by decide +kernel, by decide +kernel⟩
theorem ok_law_members {f : Addr} {fd : FuncData} (F : Fun K "_law_members" "_law_members" s_law_members f fd) (T : Txt mg)  : FnOk P w K mg base CX0 1 f fd ["bits"] (spF ⟨K, cls⟩ [] 1 f_law_members) := by
  have sc := sc_law_members
  refine fn_fl F sc (fun cdv A outer s H E hr => ?_) 1 3
  exact (fss_cons (fs_set 1 sc.nd (fe_lstO fa_nil))
  (fss_cons (fs_set 2 sc.nd fe_int)
  (fss_cons (fs_while (fun ρ => natAt ρ 0 + 1) (ft_gt (fe_var 0) fe_int)
  (fss_cons (fs_if (ft_eq hr (fe_mod (fe_intT T.b_int (fa_cons (fe_var 0) fa_nil)) fe_int) fe_int)
  (fss_one (fs_expr (fe_append (pv 1) (fa_one (fe_var 2)))))
  fss_nil)
  (fss_cons (fs_set 0 sc.nd (fe_div (fe_var 0) fe_int))
  (fss_one (fs_set 2 sc.nd (fe_add (fe_var 2) fe_int))))))
  (fss_one (fs_ret (fe_tuple T.b_tuple (fa_cons (fe_var 1) fa_nil)))))))
theorem sc_law_down_sets : FnScope ["order", "downs", "b", "x"] ["order"] (defScope s_law_down_sets) := ⟨rfl, rfl, rfl, by decide +kernel, rfl, by decide +kernel, by decide +kernel⟩
theorem ok_law_down_sets {f : Addr} {fd : FuncData} (F : Fun K "_law_down_sets" "_law_down_sets" s_law_down_sets f fd) (T : Txt mg) (C_law_bit : Cal P w K mg base ⟨K, cls⟩ 1 "_law_bit" ["x"] [] 1 f_law_bit) (C_law_inside : Cal P w K mg base ⟨K, cls⟩ 1 "_law_inside" ["a", "b"] [] 2 f_law_inside) (C_law_downs : Cal P w K mg base ⟨K, cls⟩ 3 "_law_downs" ["order"] [] 1 f_law_downs) (C_law_members : Cal P w K mg base ⟨K, cls⟩ 1 "_law_members" ["bits"] [] 1 f_law_members) : FnOk P w K mg base CX0 4 f fd ["order"] (spF ⟨K, cls⟩ [] 1 f_law_down_sets) := by
  have sc := sc_law_down_sets
  refine fn_fl F sc (fun cdv A outer s H E hr => ?_) 1 4
  exact (fss_cons (fs_set 1 sc.nd (fe_calC C_law_downs (hr.mono (by decide)) (fa_cons (fe_var 0) fa_nil)))
  (fss_one (fs_ret (fe_frzE (fe_lc (own := [("b", 2)]) sc.nd (fi_range1 (by rfl) T.b_range (fa_cons (fe_calC C_law_bit (hr.mono (by decide)) (fa_cons (fe_len T.b_len (fa_cons (fe_var 0) fa_nil)) fa_nil)) fa_nil)) (blkOk_by (by kernel_rfl)) (fun _ _ _ _ _ => (pg_name (i := 2) sc.nd rfl (by first | exact .inl rfl | exact .inr rfl))) (fun _ _ _ _ _ => (fts_one (ft_tru (fe_all T.b_all (fa_cons (fe_lc (own := [("x", 3)]) sc.nd (fi_seq rfl (fe_calC C_law_members (hr.mono (by decide)) (fa_cons (fe_var 2) fa_nil))) (blkOk_by (by kernel_rfl)) (fun _ _ _ _ _ => (pg_name (i := 3) sc.nd rfl (by first | exact .inl rfl | exact .inr rfl))) (fun _ _ _ _ _ => fts_nil) (fun _ _ _ _ _ => (fe_calC C_law_inside (hr.mono (by decide)) (fa_cons (fe_at (fe_var 1) (fe_var 3)) (fa_cons (fe_var 2) fa_nil))))) fa_nil))))) (fun _ _ _ _ _ => (fe_var 2)))))))
theorem sc_law_pick : FnScope ["d", "menu"] ["d", "menu"] (defScope s_law_pick) := ⟨rfl, rfl, rfl, by decide +kernel, rfl, by decide +kernel, by decide +kernel⟩
theorem ok_law_pick {f : Addr} {fd : FuncData} (F : Fun K "_law_pick" "_law_pick" s_law_pick f fd) (T : Txt mg) (C_law_take : Cal P w K mg base ⟨K, cls⟩ 1 "_law_take" ["d", "many"] [0] 2 f_law_take) : FnOk P w K mg base CX0 2 f fd ["d", "menu"] (spF ⟨K, cls⟩ [0] 2 f_law_pick) := by
  have sc := sc_law_pick
  refine fn_fl F sc (fun cdv A outer s H E hr => ?_) 2 2
  exact (fss_one (fs_ret (fe_at (fe_var 1) (fe_calC C_law_take (hr.mono (by decide)) (fa_cons (fe_var 0) (fa_cons (fe_len T.b_len (fa_cons (fe_var 1) fa_nil)) fa_nil))))))
theorem sc_law_named : FnScope ["order", "p", "n", "y", "x"] ["order", "p"] (defScope s_law_named) := ⟨rfl, rfl, rfl, by decide +kernel, rfl, by decide +kernel, by decide +kernel⟩
theorem ok_law_named {f : Addr} {fd : FuncData} (F : Fun K "_law_named" "_law_named" s_law_named f fd) (T : Txt mg) (C_law_bits : Cal P w K mg base ⟨K, cls⟩ 2 "_law_bits" ["rows"] [] 1 f_law_bits) (C_law_members : Cal P w K mg base ⟨K, cls⟩ 1 "_law_members" ["bits"] [] 1 f_law_members) : FnOk P w K mg base CX0 3 f fd ["order", "p"] (spF ⟨K, cls⟩ [] 2 f_law_named) := by
  have sc := sc_law_named
  refine fn_fl F sc (fun cdv A outer s H E hr => ?_) 2 5
  exact (fss_cons (fs_set 2 sc.nd (fe_len T.b_len (fa_cons (fe_var 0) fa_nil)))
  (fss_one (fs_ret (fe_tuple T.b_tuple (fa_cons (fe_lc (own := [("x", 4)]) sc.nd (fi_range1 (by rfl) T.b_range (fa_cons (fe_var 2) fa_nil)) (blkOk_by (by kernel_rfl)) (fun _ _ _ _ _ => (pg_name (i := 4) sc.nd rfl (by first | exact .inl rfl | exact .inr rfl))) (fun _ _ _ _ _ => fts_nil) (fun _ _ _ _ _ => (fe_calC C_law_bits (hr.mono (by decide)) (fa_cons (fe_frzE (fe_lc (own := [("y", 3)]) sc.nd (fi_seq rfl (fe_calC C_law_members (hr.mono (by decide)) (fa_cons (fe_at (fe_var 0) (fe_idx (pv 1) (fe_var 4))) fa_nil))) (blkOk_by (by kernel_rfl)) (fun _ _ _ _ _ => (pg_name (i := 3) sc.nd rfl (by first | exact .inl rfl | exact .inr rfl))) (fun _ _ _ _ _ => fts_nil) (fun _ _ _ _ _ => (fe_at (fe_var 1) (fe_var 3))))) fa_nil)))) fa_nil)))))
theorem sc_law_shuffled : FnScope ["d", "n", "rest", "k"] ["d", "n"] (defScope s_law_shuffled) := ⟨rfl, rfl, rfl, by decide +kernel, rfl, by decide +kernel, by decide +kernel⟩
theorem ok_law_shuffled {f : Addr} {fd : FuncData} (F : Fun K "_law_shuffled" "_law_shuffled" s_law_shuffled f fd) (T : Txt mg) (C_law_take : Cal P w K mg base ⟨K, cls⟩ 1 "_law_take" ["d", "many"] [0] 2 f_law_take) : FnOk P w K mg base CX0 2 f fd ["d", "n"] (spF ⟨K, cls⟩ [0] 2 f_law_shuffled) := by
  have sc := sc_law_shuffled
  refine fn_fl F sc (fun cdv A outer s H E hr => ?_) 2 4
  exact (fss_cons (fs_set 2 sc.nd (fe_lrg T.b_range T.b_list (fe_var 1)))
  (fss_one (fs_ret (fe_tupF T.b_tuple (fe_lc (own := [("k", 3)]) sc.nd (fi_range1 (by rfl) T.b_range (fa_cons (fe_var 1) fa_nil)) (blkOk_by (by kernel_rfl)) (fun _ _ _ _ _ => (pg_name (i := 3) sc.nd rfl (by first | exact .inl rfl | exact .inr rfl))) (fun _ _ _ _ _ => fts_nil) (fun _ _ _ _ _ => (fe_popAt (pv 2) (fa_one (fe_calC C_law_take (hr.mono (by decide)) (fa_cons (fe_var 0) (fa_cons (fe_len T.b_len (fa_cons (fe_var 2) fa_nil)) fa_nil)))))))))))
theorem sc_law_order : FnScope ["d", "most", "n", "menu", "pairs", "chance", "y", "x", "level", "ends", "cut"] ["d", "most"] (defScope s_law_order) := ⟨rfl, rfl, rfl, by decide +kernel, rfl, by decide +kernel, by decide +kernel⟩
theorem ok_law_order {f : Addr} {fd : FuncData} (F : Fun K "_law_order" "_law_order" s_law_order f fd) (T : Txt mg) (C_law_take : Cal P w K mg base ⟨K, cls⟩ 1 "_law_take" ["d", "many"] [0] 2 f_law_take) (C_law_close : Cal P w K mg base ⟨K, cls⟩ 3 "_law_close" ["n", "pairs"] [] 2 f_law_close) (C_law_pick : Cal P w K mg base ⟨K, cls⟩ 2 "_law_pick" ["d", "menu"] [0] 2 f_law_pick) (C_law_named : Cal P w K mg base ⟨K, cls⟩ 3 "_law_named" ["order", "p"] [] 2 f_law_named) (C_law_shuffled : Cal P w K mg base ⟨K, cls⟩ 2 "_law_shuffled" ["d", "n"] [0] 2 f_law_shuffled) : FnOk P w K mg base CX0 4 f fd ["d", "most"] (spF ⟨K, cls⟩ [0] 2 f_law_order) := by
  have sc := sc_law_order
  refine fn_fl F sc (fun cdv A outer s H E hr => ?_) 2 11
  exact (fss_cons (fs_set 2 sc.nd (fe_calC C_law_take (hr.mono (by decide)) (fa_cons (fe_var 0) (fa_cons (fe_add (fe_var 1) fe_int) fa_nil))))
  (fss_cons (fs_set 3 sc.nd (fe_calC C_law_take (hr.mono (by decide)) (fa_cons (fe_var 0) (fa_cons fe_int fa_nil))))
  (fss_cons (fs_set 4 sc.nd (fe_lstO fa_nil))
  (fss_cons (fs_if (ft_lt (fe_var 3) fe_int)
  (fss_cons (fs_set 5 sc.nd (fe_calC C_law_pick (hr.mono (by decide)) (fa_cons (fe_var 0) (fa_cons (fe_lstD (fa_cons fe_int (fa_cons fe_int (fa_cons fe_int (fa_cons fe_int fa_nil))))) fa_nil))))
  (fss_one (fs_for (fi_range1 (by rfl) T.b_range (fa_cons (fe_var 2) fa_nil)) (pg_name (i := 6) sc.nd rfl (by first | exact .inl rfl | exact .inr rfl))
  (fss_one (fs_expr (fe_extend (pv 4) (fa_one (fe_lc (own := [("x", 7)]) sc.nd (fi_range1 (by rfl) T.b_range (fa_cons (fe_var 6) fa_nil)) (blkOk_by (by kernel_rfl)) (fun _ _ _ _ _ => (pg_name (i := 7) sc.nd rfl (by first | exact .inl rfl | exact .inr rfl))) (fun _ _ _ _ _ => (fts_one (ft_eq hr (fe_calC C_law_take (hr.mono (by decide)) (fa_cons (fe_var 0) (fa_cons (fe_var 5) fa_nil))) fe_int))) (fun _ _ _ _ _ => (fe_tup (fa_cons (fe_var 7) (fa_cons (fe_var 6) fa_nil))))))))))))
  (fss_one (fs_if (ft_eq hr (fe_var 3) fe_int)
  (fss_cons (fs_set 8 sc.nd (fe_frzE (fe_lc (own := [("x", 7)]) sc.nd (fi_range1 (by rfl) T.b_range (fa_cons (fe_var 2) fa_nil)) (blkOk_by (by kernel_rfl)) (fun _ _ _ _ _ => (pg_name (i := 7) sc.nd rfl (by first | exact .inl rfl | exact .inr rfl))) (fun _ _ _ _ _ => fts_nil) (fun _ _ _ _ _ => (fe_calC C_law_take (hr.mono (by decide)) (fa_cons (fe_var 0) (fa_cons fe_int fa_nil)))))))
  (fss_one (fs_for (fi_range1 (by rfl) T.b_range (fa_cons (fe_var 2) fa_nil)) (pg_name (i := 7) sc.nd rfl (by first | exact .inl rfl | exact .inr rfl))
  (fss_one (fs_expr (fe_extend (pv 4) (fa_one (fe_lc (own := [("y", 6)]) sc.nd (fi_range1 (by rfl) T.b_range (fa_cons (fe_var 2) fa_nil)) (blkOk_by (by kernel_rfl)) (fun _ _ _ _ _ => (pg_name (i := 6) sc.nd rfl (by first | exact .inl rfl | exact .inr rfl))) (fun _ _ _ _ _ => (fts_one (ft_lt (fe_at (fe_var 8) (fe_var 7)) (fe_at (fe_var 8) (fe_var 6))))) (fun _ _ _ _ _ => (fe_tup (fa_cons (fe_var 7) (fa_cons (fe_var 6) fa_nil))))))))))))
  (fss_one (fs_if (PW.pt (fw_and (ft_eq hr (fe_var 3) fe_int) (fw_and1 (ft_ge (fe_var 1) fe_int))))
  (fss_cons (fs_set 2 sc.nd fe_int)
  (fss_one (fs_for (fi_range1 (by rfl) T.b_range (fa_cons fe_int fa_nil)) (pg_name (i := 7) sc.nd rfl (by first | exact .inl rfl | exact .inr rfl))
  (fss_one (fs_expr (fe_extend (pv 4) (fa_one (fe_lc (own := [("y", 6)]) sc.nd (fi_range1 (by rfl) T.b_range (fa_cons fe_int fa_nil)) (blkOk_by (by kernel_rfl)) (fun _ _ _ _ _ => (pg_name (i := 6) sc.nd rfl (by first | exact .inl rfl | exact .inr rfl))) (fun _ _ _ _ _ => (fts_one (ft_ne hr (fe_var 7) (fe_var 6)))) (fun _ _ _ _ _ => (fe_tup (fa_cons (fe_var 7) (fa_cons (fe_add fe_int (fe_var 6)) fa_nil))))))))))))
  (fss_one (fs_if (ft_eq hr (fe_var 3) fe_int)
  (fss_cons (fs_set 9 sc.nd (fe_frzE (fe_lc (own := [("x", 7)]) sc.nd (fi_range1 (by rfl) T.b_range (fa_cons (fe_var 2) fa_nil)) (blkOk_by (by kernel_rfl)) (fun _ _ _ _ _ => (pg_name (i := 7) sc.nd rfl (by first | exact .inl rfl | exact .inr rfl))) (fun _ _ _ _ _ => fts_nil) (fun _ _ _ _ _ => (fe_frzE (fe_sortI T.b_sorted (fa_cons (fe_lstD (fa_cons (fe_calC C_law_take (hr.mono (by decide)) (fa_cons (fe_var 0) (fa_cons fe_int fa_nil))) (fa_cons (fe_calC C_law_take (hr.mono (by decide)) (fa_cons (fe_var 0) (fa_cons fe_int fa_nil))) fa_nil))) fa_nil)))))))
  (fss_one (fs_for (fi_range1 (by rfl) T.b_range (fa_cons (fe_var 2) fa_nil)) (pg_name (i := 7) sc.nd rfl (by first | exact .inl rfl | exact .inr rfl))
  (fss_one (fs_expr (fe_extend (pv 4) (fa_one (fe_lc (own := [("y", 6)]) sc.nd (fi_range1 (by rfl) T.b_range (fa_cons (fe_var 2) fa_nil)) (blkOk_by (by kernel_rfl)) (fun _ _ _ _ _ => (pg_name (i := 6) sc.nd rfl (by first | exact .inl rfl | exact .inr rfl))) (fun _ _ _ _ _ => (fts_one (ft_lt (fe_at (fe_at (fe_var 9) (fe_var 7)) fe_int) (fe_at (fe_at (fe_var 9) (fe_var 6)) fe_int)))) (fun _ _ _ _ _ => (fe_tup (fa_cons (fe_var 7) (fa_cons (fe_var 6) fa_nil))))))))))))
  (fss_one (fs_if (ft_eq hr (fe_var 3) fe_int)
  (fss_cons (fs_set 10 sc.nd (fe_calC C_law_take (hr.mono (by decide)) (fa_cons (fe_var 0) (fa_cons (fe_add (fe_var 2) fe_int) fa_nil))))
  (fss_one (fs_for (fi_range1 (by rfl) T.b_range (fa_cons (fe_var 2) fa_nil)) (pg_name (i := 7) sc.nd rfl (by first | exact .inl rfl | exact .inr rfl))
  (fss_one (fs_expr (fe_extend (pv 4) (fa_one (fe_lc (own := [("y", 6)]) sc.nd (fi_range2 (by rfl) T.b_range (fa_cons (fe_add (fe_var 7) fe_int) (fa_cons (fe_var 2) fa_nil))) (blkOk_by (by kernel_rfl)) (fun _ _ _ _ _ => (pg_name (i := 6) sc.nd rfl (by first | exact .inl rfl | exact .inr rfl))) (fun _ _ _ _ _ => (fts_one (PW.pt (fw_and (ft_eq hr (fe_lt (fe_var 7) (fe_var 10)) (fe_lt (fe_var 6) (fe_var 10))) (fw_and1 (ft_eq hr (fe_calC C_law_take (hr.mono (by decide)) (fa_cons (fe_var 0) (fa_cons fe_int fa_nil))) fe_int)))))) (fun _ _ _ _ _ => (fe_tup (fa_cons (fe_var 7) (fa_cons (fe_var 6) fa_nil))))))))))))
  (fss_one (fs_set 4 sc.nd (fe_cat (fe_lc (own := [("x", 7)]) sc.nd (fi_range3 (by rfl) T.b_range (fa_cons fe_int (fa_cons (fe_sub (fe_var 2) fe_int) (fa_cons fe_int fa_nil)))) (blkOk_by (by kernel_rfl)) (fun _ _ _ _ _ => (pg_name (i := 7) sc.nd rfl (by first | exact .inl rfl | exact .inr rfl))) (fun _ _ _ _ _ => fts_nil) (fun _ _ _ _ _ => (fe_tup (fa_cons (fe_var 7) (fa_cons (fe_add (fe_var 7) fe_int) fa_nil))))) (fe_lc (own := [("x", 7)]) sc.nd (fi_range3 (by rfl) T.b_range (fa_cons fe_int (fa_cons (fe_var 2) (fa_cons fe_int fa_nil)))) (blkOk_by (by kernel_rfl)) (fun _ _ _ _ _ => (pg_name (i := 7) sc.nd rfl (by first | exact .inl rfl | exact .inr rfl))) (fun _ _ _ _ _ => fts_nil) (fun _ _ _ _ _ => (fe_tup (fa_cons (fe_var 7) (fa_cons (fe_sub (fe_var 7) fe_int) fa_nil)))))))))))))))))
  (fss_one (fs_ret (fe_calC C_law_named (hr.mono (by decide)) (fa_cons (fe_calC C_law_close (hr.mono (by decide)) (fa_cons (fe_var 2) (fa_cons (fe_fz 4) fa_nil))) (fa_cons (fe_calC C_law_shuffled (hr.mono (by decide)) (fa_cons (fe_var 0) (fa_cons (fe_var 2) fa_nil))) fa_nil)))))))))
theorem sc_law_cuts : FnScope ["order", "n", "downs", "found", "b", "up", "x", "low"] ["order"] (defScope s_law_cuts) := ⟨rfl, rfl, rfl, by decide +kernel, rfl, by decide +kernel, by decide +kernel⟩
theorem ok_law_cuts {f : Addr} {fd : FuncData} (F : Fun K "_law_cuts" "_law_cuts" s_law_cuts f fd) (T : Txt mg) (C_law_bit : Cal P w K mg base ⟨K, cls⟩ 1 "_law_bit" ["x"] [] 1 f_law_bit) (C_law_downs : Cal P w K mg base ⟨K, cls⟩ 3 "_law_downs" ["order"] [] 1 f_law_downs) (C_law_members : Cal P w K mg base ⟨K, cls⟩ 1 "_law_members" ["bits"] [] 1 f_law_members) : FnOk P w K mg base CX0 4 f fd ["order"] (spF ⟨K, cls⟩ [] 1 f_law_cuts) := by
  have sc := sc_law_cuts
  refine fn_fl F sc (fun cdv A outer s H E hr => ?_) 1 8
  exact (fss_cons (fs_set 1 sc.nd (fe_len T.b_len (fa_cons (fe_var 0) fa_nil)))
  (fss_cons (fs_set 2 sc.nd (fe_calC C_law_downs (hr.mono (by decide)) (fa_cons (fe_var 0) fa_nil)))
  (fss_cons (fs_set 3 sc.nd (fe_lstO fa_nil))
  (fss_cons (fs_for (fi_range1 (by rfl) T.b_range (fa_cons (fe_calC C_law_bit (hr.mono (by decide)) (fa_cons (fe_var 1) fa_nil)) fa_nil)) (pg_name (i := 4) sc.nd rfl (by first | exact .inl rfl | exact .inr rfl))
  (fss_cons (fs_set 5 sc.nd (fe_sub (fe_calC C_law_bit (hr.mono (by decide)) (fa_cons (fe_var 1) fa_nil)) fe_int))
  (fss_cons (fs_for (fi_seq rfl (fe_calC C_law_members (hr.mono (by decide)) (fa_cons (fe_var 4) fa_nil))) (pg_name (i := 6) sc.nd rfl (by first | exact .inl rfl | exact .inr rfl))
  (fss_one (fs_set 5 sc.nd (fe_band (fe_var 5) (fe_at (fe_var 0) (fe_var 6))))))
  (fss_cons (fs_set 7 sc.nd (fe_sub (fe_calC C_law_bit (hr.mono (by decide)) (fa_cons (fe_var 1) fa_nil)) fe_int))
  (fss_cons (fs_for (fi_seq rfl (fe_calC C_law_members (hr.mono (by decide)) (fa_cons (fe_var 5) fa_nil))) (pg_name (i := 6) sc.nd rfl (by first | exact .inl rfl | exact .inr rfl))
  (fss_one (fs_set 7 sc.nd (fe_band (fe_var 7) (fe_at (fe_var 2) (fe_var 6))))))
  (fss_one (fs_expr (fe_append (pv 3) (fa_one (fe_var 7))))))))))
  (fss_one (fs_ret (fe_frzE (fe_sortU T.b_sorted T.b_set (fa_cons (fe_var 3) fa_nil)))))))))
theorem sc_law_lattice : FnScope ["d", "most", "menu", "n", "pairs", "x", "order", "a", "b", "m", "y", "z", "rows", "k", "turn", "more", "base"] ["d", "most"] (defScope s_law_lattice) := ⟨rfl, rfl, rfl, by decide +kernel, rfl, by decide +kernel, by decide +kernel⟩
theorem ok_law_lattice {f : Addr} {fd : FuncData} (F : Fun K "_law_lattice" "_law_lattice" s_law_lattice f fd) (T : Txt mg) (C_law_take : Cal P w K mg base ⟨K, cls⟩ 1 "_law_take" ["d", "many"] [0] 2 f_law_take) (C_law_close : Cal P w K mg base ⟨K, cls⟩ 3 "_law_close" ["n", "pairs"] [] 2 f_law_close) (C_law_by_sets : Cal P w K mg base ⟨K, cls⟩ 3 "_law_by_sets" ["rows"] [] 1 f_law_by_sets) (C_law_down_sets : Cal P w K mg base ⟨K, cls⟩ 4 "_law_down_sets" ["order"] [] 1 f_law_down_sets) (C_law_named : Cal P w K mg base ⟨K, cls⟩ 3 "_law_named" ["order", "p"] [] 2 f_law_named) (C_law_shuffled : Cal P w K mg base ⟨K, cls⟩ 2 "_law_shuffled" ["d", "n"] [0] 2 f_law_shuffled) (C_law_order : Cal P w K mg base ⟨K, cls⟩ 4 "_law_order" ["d", "most"] [0] 2 f_law_order) (C_law_cuts : Cal P w K mg base ⟨K, cls⟩ 4 "_law_cuts" ["order"] [] 1 f_law_cuts) : FnOk P w K mg base CX0 5 f fd ["d", "most"] (spF ⟨K, cls⟩ [0] 2 f_law_lattice) := by
  have sc := sc_law_lattice
  refine fn_fl F sc (fun cdv A outer s H E hr => ?_) 2 17
  exact (fss_cons (fs_set 2 sc.nd (fe_calC C_law_take (hr.mono (by decide)) (fa_cons (fe_var 0) (fa_cons fe_int fa_nil))))
  (fss_cons (fs_if (ft_eq hr (fe_var 2) fe_int)
  (fss_cons (fs_set 3 sc.nd (fe_add fe_int (fe_calC C_law_take (hr.mono (by decide)) (fa_cons (fe_var 0) (fa_cons fe_int fa_nil)))))
  (fss_cons (fs_set 4 sc.nd (fe_cat (fe_lc (own := [("x", 5)]) sc.nd (fi_range1 (by rfl) T.b_range (fa_cons (fe_var 3) fa_nil)) (blkOk_by (by kernel_rfl)) (fun _ _ _ _ _ => (pg_name (i := 5) sc.nd rfl (by first | exact .inl rfl | exact .inr rfl))) (fun _ _ _ _ _ => fts_nil) (fun _ _ _ _ _ => (fe_tup (fa_cons fe_int (fa_cons (fe_var 5) fa_nil))))) (fe_lc (own := [("x", 5)]) sc.nd (fi_range1 (by rfl) T.b_range (fa_cons (fe_var 3) fa_nil)) (blkOk_by (by kernel_rfl)) (fun _ _ _ _ _ => (pg_name (i := 5) sc.nd rfl (by first | exact .inl rfl | exact .inr rfl))) (fun _ _ _ _ _ => fts_nil) (fun _ _ _ _ _ => (fe_tup (fa_cons (fe_var 5) (fa_cons (fe_sub (fe_var 3) fe_int) fa_nil)))))))
  (fss_one (fs_set 6 sc.nd (fe_calC C_law_close (hr.mono (by decide)) (fa_cons (fe_var 3) (fa_cons (fe_fz 4) fa_nil)))))))
  (fss_one (fs_if (ft_eq hr (fe_var 2) fe_int)
  (fss_cons (fs_set 7 sc.nd (fe_add fe_int (fe_calC C_law_take (hr.mono (by decide)) (fa_cons (fe_var 0) (fa_cons fe_int fa_nil)))))
  (fss_cons (fs_set 8 sc.nd (fe_add fe_int (fe_calC C_law_take (hr.mono (by decide)) (fa_cons (fe_var 0) (fa_cons fe_int fa_nil)))))
  (fss_cons (fs_set 4 sc.nd (fe_cat (fe_add (fe_lstD (fa_cons (fe_tup (fa_cons fe_int (fa_cons fe_int fa_nil))) (fa_cons (fe_tup (fa_cons (fe_var 7) (fa_cons (fe_add (fe_add (fe_var 7) (fe_var 8)) fe_int) fa_nil))) (fa_cons (fe_tup (fa_cons fe_int (fa_cons (fe_add (fe_var 7) fe_int) fa_nil))) fa_nil)))) (fe_lc (own := [("x", 5)]) sc.nd (fi_range2 (by rfl) T.b_range (fa_cons fe_int (fa_cons (fe_var 7) fa_nil))) (blkOk_by (by kernel_rfl)) (fun _ _ _ _ _ => (pg_name (i := 5) sc.nd rfl (by first | exact .inl rfl | exact .inr rfl))) (fun _ _ _ _ _ => fts_nil) (fun _ _ _ _ _ => (fe_tup (fa_cons (fe_var 5) (fa_cons (fe_add (fe_var 5) fe_int) fa_nil)))))) (fe_lc (own := [("x", 5)]) sc.nd (fi_range2 (by rfl) T.b_range (fa_cons (fe_add (fe_var 7) fe_int) (fa_cons (fe_add (fe_add (fe_var 7) (fe_var 8)) fe_int) fa_nil))) (blkOk_by (by kernel_rfl)) (fun _ _ _ _ _ => (pg_name (i := 5) sc.nd rfl (by first | exact .inl rfl | exact .inr rfl))) (fun _ _ _ _ _ => fts_nil) (fun _ _ _ _ _ => (fe_tup (fa_cons (fe_var 5) (fa_cons (fe_add (fe_var 5) fe_int) fa_nil)))))))
  (fss_one (fs_set 6 sc.nd (fe_calC C_law_close (hr.mono (by decide)) (fa_cons (fe_add (fe_add (fe_var 7) (fe_var 8)) fe_int) (fa_cons (fe_fz 4) fa_nil))))))))
  (fss_one (fs_if (ft_eq hr (fe_var 2) fe_int)
  (fss_cons (fs_set 9 sc.nd (fe_add fe_int (fe_calC C_law_take (hr.mono (by decide)) (fa_cons (fe_var 0) (fa_cons fe_int fa_nil)))))
  (fss_cons (fs_set 3 sc.nd (fe_add fe_int (fe_calC C_law_take (hr.mono (by decide)) (fa_cons (fe_var 0) (fa_cons fe_int fa_nil)))))
  (fss_cons (fs_set 4 sc.nd (fe_lstO fa_nil))
  (fss_cons (fs_for (fi_range1 (by rfl) T.b_range (fa_cons (fe_var 9) fa_nil)) (pg_name (i := 5) sc.nd rfl (by first | exact .inl rfl | exact .inr rfl))
  (fss_one (fs_for (fi_range1 (by rfl) T.b_range (fa_cons (fe_var 3) fa_nil)) (pg_name (i := 10) sc.nd rfl (by first | exact .inl rfl | exact .inr rfl))
  (fss_one (fs_expr (fe_extend (pv 4) (fa_one (fe_cat (fe_lc (own := [("z", 11)]) sc.nd (fi_range2 (by rfl) T.b_range (fa_cons (fe_var 5) (fa_cons (fe_var 9) fa_nil))) (blkOk_by (by kernel_rfl)) (fun _ _ _ _ _ => (pg_name (i := 11) sc.nd rfl (by first | exact .inl rfl | exact .inr rfl))) (fun _ _ _ _ _ => fts_nil) (fun _ _ _ _ _ => (fe_tup (fa_cons (fe_add (fe_mul (fe_var 5) (fe_var 3)) (fe_var 10)) (fa_cons (fe_add (fe_mul (fe_var 11) (fe_var 3)) (fe_var 10)) fa_nil))))) (fe_lc (own := [("z", 11)]) sc.nd (fi_range2 (by rfl) T.b_range (fa_cons (fe_var 10) (fa_cons (fe_var 3) fa_nil))) (blkOk_by (by kernel_rfl)) (fun _ _ _ _ _ => (pg_name (i := 11) sc.nd rfl (by first | exact .inl rfl | exact .inr rfl))) (fun _ _ _ _ _ => fts_nil) (fun _ _ _ _ _ => (fe_tup (fa_cons (fe_add (fe_mul (fe_var 5) (fe_var 3)) (fe_var 10)) (fa_cons (fe_add (fe_mul (fe_var 5) (fe_var 3)) (fe_var 11)) fa_nil)))))))))))))
  (fss_one (fs_set 6 sc.nd (fe_calC C_law_close (hr.mono (by decide)) (fa_cons (fe_mul (fe_var 9) (fe_var 3)) (fa_cons (fe_fz 4) fa_nil)))))))))
  (fss_one (fs_if (ft_eq hr (fe_var 2) fe_int)
  (fss_one (fs_set 6 sc.nd (fe_calC C_law_by_sets (hr.mono (by decide)) (fa_cons (fe_calC C_law_down_sets (hr.mono (by decide)) (fa_cons (fe_calC C_law_order (hr.mono (by decide)) (fa_cons (fe_var 0) (fa_cons fe_int fa_nil))) fa_nil)) fa_nil))))
  (fss_one (fs_if (ft_eq hr (fe_var 2) fe_int)
  (fss_cons (fs_set 12 sc.nd (fe_add (fe_lstD (fa_cons fe_int fa_nil)) (fe_lc (own := [("k", 13)]) sc.nd (fi_range1 (by rfl) T.b_range (fa_cons (fe_calC C_law_take (hr.mono (by decide)) (fa_cons (fe_var 0) (fa_cons fe_int fa_nil))) fa_nil)) (blkOk_by (by kernel_rfl)) (fun _ _ _ _ _ => (pg_name (i := 13) sc.nd rfl (by first | exact .inl rfl | exact .inr rfl))) (fun _ _ _ _ _ => fts_nil) (fun _ _ _ _ _ => (fe_calC C_law_take (hr.mono (by decide)) (fa_cons (fe_var 0) (fa_cons fe_int fa_nil)))))))
  (fss_cons (fs_for (fi_range1 (by rfl) T.b_range (fa_cons fe_int fa_nil)) (pg_name (i := 14) sc.nd rfl (by first | exact .inl rfl | exact .inr rfl))
  (fss_cons (fs_set 15 sc.nd (fe_lstO fa_nil))
  (fss_cons (fs_for (fi_seq rfl (fe_var 12)) (pg_name (i := 7) sc.nd rfl (by first | exact .inl rfl | exact .inr rfl))
  (fss_one (fs_expr (fe_extend (pv 15) (fa_one (fe_lc (own := [("b", 8)]) sc.nd (fi_seq rfl (fe_var 12)) (blkOk_by (by kernel_rfl)) (fun _ _ _ _ _ => (pg_name (i := 8) sc.nd rfl (by first | exact .inl rfl | exact .inr rfl))) (fun _ _ _ _ _ => fts_nil) (fun _ _ _ _ _ => (fe_band (fe_var 7) (fe_var 8)))))))))
  (fss_one (fs_set 12 sc.nd (fe_frzE (fe_sortU T.b_sorted T.b_set (fa_cons (fe_add (fe_var 12) (fe_var 15)) fa_nil))))))))
  (fss_one (fs_set 6 sc.nd (fe_calC C_law_by_sets (hr.mono (by decide)) (fa_cons (fe_var 12) fa_nil))))))
  (fss_one (fs_if (ft_eq hr (fe_var 2) fe_int)
  (fss_cons (fs_set 16 sc.nd (fe_calC C_law_order (hr.mono (by decide)) (fa_cons (fe_var 0) (fa_cons fe_int fa_nil))))
  (fss_one (fs_set 6 sc.nd (fe_calC C_law_by_sets (hr.mono (by decide)) (fa_cons (fe_calC C_law_cuts (hr.mono (by decide)) (fa_cons (fe_var 16) fa_nil)) fa_nil)))))
  (fss_one (fs_set 6 sc.nd (fe_calC C_law_close (hr.mono (by decide)) (fa_cons fe_int (fa_cons (fe_lstD (fa_cons (fe_tup (fa_cons fe_int (fa_cons fe_int fa_nil))) (fa_cons (fe_tup (fa_cons fe_int (fa_cons fe_int fa_nil))) (fa_cons (fe_tup (fa_cons fe_int (fa_cons fe_int fa_nil))) (fa_cons (fe_tup (fa_cons fe_int (fa_cons fe_int fa_nil))) (fa_cons (fe_tup (fa_cons fe_int (fa_cons fe_int fa_nil))) (fa_cons (fe_tup (fa_cons fe_int (fa_cons fe_int fa_nil))) (fa_cons (fe_tup (fa_cons fe_int (fa_cons fe_int fa_nil))) (fa_cons (fe_tup (fa_cons fe_int (fa_cons fe_int fa_nil))) (fa_cons (fe_tup (fa_cons fe_int (fa_cons fe_int fa_nil))) (fa_cons (fe_tup (fa_cons fe_int (fa_cons fe_int fa_nil))) (fa_cons (fe_tup (fa_cons fe_int (fa_cons fe_int fa_nil))) fa_nil)))))))))))) fa_nil))))))))))))))))
  (fss_cons (fs_if (PW.pt (fw_or (ft_gt (fe_len T.b_len (fa_cons (fe_var 6) fa_nil)) (fe_var 1)) (fw_or1 (ft_eq hr (fe_len T.b_len (fa_cons (fe_var 6) fa_nil)) fe_int))))
  (fss_one (fs_set 6 sc.nd (fe_tup (fa_cons fe_int (fa_cons fe_int fa_nil)))))
  fss_nil)
  (fss_one (fs_ret (fe_calC C_law_named (hr.mono (by decide)) (fa_cons (fe_var 6) (fa_cons (fe_calC C_law_shuffled (hr.mono (by decide)) (fa_cons (fe_var 0) (fa_cons (fe_len T.b_len (fa_cons (fe_var 6) fa_nil)) fa_nil))) fa_nil))))))))
theorem sc_law_count : FnScope ["bits"] ["bits"] (defScope s_law_count) := ⟨rfl, rfl, rfl, by decide +kernel, rfl, by decide +kernel, by decide +kernel⟩
theorem ok_law_count {f : Addr} {fd : FuncData} (F : Fun K "_law_count" "_law_count" s_law_count f fd) (T : Txt mg) (C_law_members : Cal P w K mg base ⟨K, cls⟩ 1 "_law_members" ["bits"] [] 1 f_law_members) : FnOk P w K mg base CX0 2 f fd ["bits"] (spF ⟨K, cls⟩ [] 1 f_law_count) := by
  have sc := sc_law_count
  refine fn_fl F sc (fun cdv A outer s H E hr => ?_) 1 1
  exact (fss_one (fs_ret (fe_len T.b_len (fa_cons (fe_calC C_law_members (hr.mono (by decide)) (fa_cons (fe_var 0) fa_nil)) fa_nil))))
theorem sclaw : FnScope ["script", "d", "order", "n", "low", "high", "table", "number", "middle", "x", "meets", "joins", "rows", "total", "b", "point", "k", "y", "a"] ["script"] (defScope slaw) := ⟨rfl, rfl, rfl, by decide +kernel, rfl, by decide +kernel, by decide +kernel⟩
theorem oklaw {f : Addr} {fd : FuncData} (F : Fun K "law" "law" slaw f fd) (T : Txt mg) (Cpart_of : Cal P w K mg base ⟨K, cls⟩ 2 "part_of" ["order", "points"] [] 2 f_part_of) (Cmoebius_table : Cal P w K mg base ⟨K, cls⟩ 4 "moebius_table" ["order"] [] 1 f_moebius_table) (Ceuler_number : Cal P w K mg base ⟨K, cls⟩ 2 "euler_number" ["order"] [] 1 f_euler_number) (Ctables_of : Cal P w K mg base ⟨K, cls⟩ 4 "tables_of" ["order"] [] 1 f_tables_of) (Cbottom : Cal P w K mg base ⟨K, cls⟩ 3 "bottom" ["order"] [] 1 f_bottom) (Ctop : Cal P w K mg base ⟨K, cls⟩ 3 "top" ["order"] [] 1 f_top) (Catoms : Cal P w K mg base ⟨K, cls⟩ 4 "atoms" ["order"] [] 1 f_atoms) (C_law_begin : Cal P w K mg base ⟨K, cls⟩ 1 "_law_begin" ["script"] [] 1 f_law_begin) (C_law_take : Cal P w K mg base ⟨K, cls⟩ 1 "_law_take" ["d", "many"] [0] 2 f_law_take) (C_law_bit : Cal P w K mg base ⟨K, cls⟩ 1 "_law_bit" ["x"] [] 1 f_law_bit) (C_law_members : Cal P w K mg base ⟨K, cls⟩ 1 "_law_members" ["bits"] [] 1 f_law_members) (C_law_lattice : Cal P w K mg base ⟨K, cls⟩ 5 "_law_lattice" ["d", "most"] [0] 2 f_law_lattice) (C_law_count : Cal P w K mg base ⟨K, cls⟩ 2 "_law_count" ["bits"] [] 1 f_law_count) : FnOk P w K mg base CX0 6 f fd ["script"] (spF ⟨K, cls⟩ [] 1 f_law) := by
  have sc := sclaw
  refine fn_fl F sc (fun cdv A outer s H E hr => ?_) 1 19
  exact (fss_cons (fs_set 1 sc.nd (fe_calC C_law_begin (hr.mono (by decide)) (fa_cons (fe_var 0) fa_nil)))
  (fss_cons (fs_set 2 sc.nd (fe_calC C_law_lattice (hr.mono (by decide)) (fa_cons (fe_var 1) (fa_cons fe_int fa_nil))))
  (fss_cons (fs_set 3 sc.nd (fe_len T.b_len (fa_cons (fe_var 2) fa_nil)))
  (fss_cons (fs_if (ft_lt (fe_var 3) fe_int)
  (fss_one (fs_ret (fe_eq hr (fe_calC Cmoebius_table (hr.mono (by decide)) (fa_cons (fe_var 2) fa_nil)) (fe_tup (fa_cons (fe_tup (fa_cons fe_int fa_nil)) fa_nil)))))
  fss_nil)
  (fss_cons (fs_set 4 sc.nd (fe_calC Cbottom (hr.mono (by decide)) (fa_cons (fe_var 2) fa_nil)))
  (fss_cons (fs_set 5 sc.nd (fe_calC Ctop (hr.mono (by decide)) (fa_cons (fe_var 2) fa_nil)))
  (fss_cons (fs_set 6 sc.nd (fe_calC Cmoebius_table (hr.mono (by decide)) (fa_cons (fe_var 2) fa_nil)))
  (fss_cons (fs_set 7 sc.nd (fe_at (fe_at (fe_var 6) (fe_var 4)) (fe_var 5)))
  (fss_cons (fs_set 8 sc.nd (fe_tuple T.b_tuple (fa_cons (fe_lc (own := [("x", 9)]) sc.nd (fi_range1 (by rfl) T.b_range (fa_cons (fe_var 3) fa_nil)) (blkOk_by (by kernel_rfl)) (fun _ _ _ _ _ => (pg_name (i := 9) sc.nd rfl (by first | exact .inl rfl | exact .inr rfl))) (fun _ _ _ _ _ => (fts_one (PW.pt (fw_and (ft_ne hr (fe_var 9) (fe_var 4)) (fw_and1 (ft_ne hr (fe_var 9) (fe_var 5))))))) (fun _ _ _ _ _ => (fe_var 9))) fa_nil)))
  (fss_cons (fs_if (ft_ne hr (fe_var 7) (fe_sub (fe_calC Ceuler_number (hr.mono (by decide)) (fa_cons (fe_calC Cpart_of (hr.mono (by decide)) (fa_cons (fe_var 2) (fa_cons (fe_var 8) fa_nil))) fa_nil)) fe_int))
  (fss_one (fs_ret fe_bl))
  fss_nil)
  (fss_cons (fs_setT (fe_calC Ctables_of (hr.mono (by decide)) (fa_cons (fe_var 2) fa_nil)) (pg_tup rfl (pgs_cons (pg_name (i := 10) sc.nd rfl (by first | exact .inl rfl | exact .inr rfl)) (pgs_cons (pg_name (i := 11) sc.nd rfl (by first | exact .inl rfl | exact .inr rfl)) pgs_nil))))
  (fss_cons (fs_set 12 sc.nd (fe_calC Catoms (hr.mono (by decide)) (fa_cons (fe_var 2) fa_nil)))
  (fss_cons (fs_set 13 sc.nd fe_int)
  (fss_cons (fs_for (fi_range1 (by rfl) T.b_range (fa_cons (fe_calC C_law_bit (hr.mono (by decide)) (fa_cons (fe_len T.b_len (fa_cons (fe_var 12) fa_nil)) fa_nil)) fa_nil)) (pg_name (i := 14) sc.nd rfl (by first | exact .inl rfl | exact .inr rfl))
  (fss_cons (fs_set 15 sc.nd (fe_var 4))
  (fss_cons (fs_for (fi_seq rfl (fe_calC C_law_members (hr.mono (by decide)) (fa_cons (fe_var 14) fa_nil))) (pg_name (i := 16) sc.nd rfl (by first | exact .inl rfl | exact .inr rfl))
  (fss_one (fs_set 15 sc.nd (fe_at (fe_at (fe_var 11) (fe_var 15)) (fe_at (fe_var 12) (fe_var 16))))))
  (fss_one (fs_if (ft_eq hr (fe_var 15) (fe_var 5))
  (fss_one (fs_set 13 sc.nd (fe_add (fe_var 13) (fe_if (ft_eq hr (fe_mod (fe_calC C_law_count (hr.mono (by decide)) (fa_cons (fe_var 14) fa_nil)) fe_int) fe_int) fe_int (fe_sub fe_int fe_int)))))
  fss_nil)))))
  (fss_cons (fs_if (ft_ne hr (fe_var 7) (fe_var 13))
  (fss_one (fs_ret fe_bl))
  fss_nil)
  (fss_cons (fs_set 9 sc.nd (fe_calC C_law_take (hr.mono (by decide)) (fa_cons (fe_var 1) (fa_cons (fe_var 3) fa_nil))))
  (fss_cons (fs_if (PW.pt (fw_and (ft_ne hr (fe_var 9) (fe_var 4)) (fw_and1 (ft_ne hr (fe_sum T.b_sum (fa_cons (fe_lc (own := [("y", 17)]) sc.nd (fi_range1 (by rfl) T.b_range (fa_cons (fe_var 3) fa_nil)) (blkOk_by (by kernel_rfl)) (fun _ _ _ _ _ => (pg_name (i := 17) sc.nd rfl (by first | exact .inl rfl | exact .inr rfl))) (fun _ _ _ _ _ => (fts_one (ft_eq hr (fe_at (fe_at (fe_var 11) (fe_var 17)) (fe_var 9)) (fe_var 5)))) (fun _ _ _ _ _ => (fe_at (fe_at (fe_var 6) (fe_var 4)) (fe_var 17)))) fa_nil)) fe_int))))
  (fss_one (fs_ret fe_bl))
  fss_nil)
  (fss_cons (fs_set 15 sc.nd (fe_var 4))
  (fss_cons (fs_for (fi_seq rfl (fe_var 12)) (pg_name (i := 18) sc.nd rfl (by first | exact .inl rfl | exact .inr rfl))
  (fss_one (fs_set 15 sc.nd (fe_at (fe_at (fe_var 11) (fe_var 15)) (fe_var 18)))))
  (fss_one (fs_ret (fe_or (fe_eq hr (fe_var 15) (fe_var 5)) (fe_one (fe_eq hr (fe_var 7) fe_int))))))))))))))))))))))))
end
end K50
end
section
set_option Elab.async false
set_option linter.all false
set_option maxRecDepth 100000
set_option autoImplicit false
namespace FL
open PySem

/-! ### naturals as data -/
abbrev dn (n : Nat) : PyData := .int (n : Int)
abbrev on (n : Nat) : O := .d (dn n)
abbrev tn (l : List Nat) : PyData := .tuple (l.map dn)
abbrev ln (l : List Nat) : PyData := .list (l.map dn)

theorem eqv_int (a b : Int) : PyData.eqv (.int a) (.int b) = decide (a = b) := by
  show (a == b) = decide (a = b)
  by_cases h : a = b <;> simp [h]
theorem dec_n (a b : Nat) : decide ((a : Int) = (b : Int)) = decide (a = b) := decide_eq_decide.mpr (by omega)
theorem oEq_n (a b : Nat) : oEq (dn a) (dn b) = some (.bool (decide (a = b))) := by
  unfold oEq
  rw [if_pos (by rfl), eqv_int, dec_n]
theorem oNe_n (a b : Nat) : oNe (dn a) (dn b) = some (.bool (!decide (a = b))) := by
  unfold oNe
  rw [if_pos (by rfl), eqv_int, dec_n]
theorem oAnd_n (a b : Nat) : oAnd (dn a) (dn b) = some (dn (a &&& b)) := rfl
theorem bitOr_n (a b : Nat) : Builtin.bitOr (a : Int) (b : Int) = ((a ||| b : Nat) : Int) := by
  have hb : ∀ n : Nat, Builtin.bitNot (n : Int) = -(n : Int) - 1 := fun n => rfl
  unfold Builtin.bitOr Builtin.bitAnd
  rw [hb, hb, show decide ((0 : Int) ≤ -(a : Int) - 1) = false from decide_eq_false (by omega), show decide ((0 : Int) ≤ -(b : Int) - 1) = false from decide_eq_false (by omega)]
  have hn : ∀ n : Nat, (Builtin.bitNot (-(n : Int) - 1)).toNat = n := fun n => by
    show (-(-(n : Int) - 1) - 1).toNat = n
    omega
  show Builtin.bitNot (Builtin.bitNot ((((Builtin.bitNot (-(a : Int) - 1)).toNat ||| (Builtin.bitNot (-(b : Int) - 1)).toNat : Nat)) : Int)) = _
  rw [hn, hn]
  show -(-(((a ||| b : Nat)) : Int) - 1) - 1 = _
  omega
theorem oOr_n (a b : Nat) : oOr (dn a) (dn b) = some (dn (a ||| b)) := by
  show some (PyData.int (Builtin.bitOr (a : Int) (b : Int))) = _
  rw [bitOr_n]
theorem oAdd_n (a b : Nat) : oAdd (dn a) (dn b) = some (dn (a + b)) := rfl
theorem fAdd_n (a b : Nat) : fAdd (dn a) (dn b) = some (dn (a + b)) := rfl
theorem oSub_n (a b : Nat) (h : b ≤ a) : oSub (dn a) (dn b) = some (dn (a - b)) := by
  show some (PyData.int ((a : Int) - b)) = _
  rw [← Int.ofNat_sub h]
theorem oShr_n (a b : Nat) : oShr (dn a) (dn b) = some (dn (a >>> b)) := by
  show (if decide ((0 : Int) ≤ (b : Int)) = true then some (PyData.int ((a : Int) / 2 ^ (b : Int).toNat)) else none) = _
  rw [if_pos (decide_eq_true (by omega)), Int.toNat_natCast, Nat.shiftRight_eq_div_pow]
  norm_cast
theorem oShl_n (a b : Nat) (h : b ≤ 1000000) (h2 : a < 2 ^ 64) : oShl (dn a) (dn b) = some (dn (a <<< b)) := by
  show (if (decide ((0 : Int) ≤ (b : Int)) && (decide ((b : Int) ≤ 1000000) && decide (((a : Nat) : Int).natAbs < 2 ^ 64))) = true then some (PyData.int ((a : Int) * 2 ^ (b : Int).toNat)) else none) = _
  rw [if_pos (by rw [Bool.and_eq_true, Bool.and_eq_true, decide_eq_true_eq, decide_eq_true_eq, decide_eq_true_eq]; omega), Int.toNat_natCast, Nat.shiftLeft_eq]
  norm_cast
theorem oMul_n (a b : Nat) (h : a < 2 ^ 64 ∨ b < 2 ^ 64) : oMulI (dn a) (dn b) = some (dn (a * b)) := by
  show (if okMul (a : Int) (b : Int) = true then some (PyData.int ((a : Int) * (b : Int))) else none) = _
  rw [if_pos (by unfold okMul; rw [Bool.or_eq_true, Bool.and_eq_true, Bool.and_eq_true, decide_eq_true_eq, decide_eq_true_eq, decide_eq_true_eq, decide_eq_true_eq]; omega)]
  norm_cast
theorem oDiv_n (a b : Nat) (h : 0 < b) (h2 : b < 1073741824) : oDiv (dn a) (dn b) = some (dn (a / b)) := by
  show (if okDiv (a : Int) (b : Int) = true then some (PyData.int (Int.fdiv (a : Int) (b : Int))) else none) = _
  rw [if_pos (by unfold okDiv; rw [Bool.and_eq_true, decide_eq_true_eq, decide_eq_true_eq]; omega), Int.fdiv_eq_ediv_of_nonneg _ (by omega)]
  norm_cast
theorem oMod_n (a b : Nat) (h : 0 < b) : oMod (dn a) (dn b) = some (dn (a % b)) := by
  show (if okMod (a : Int) (b : Int) = true then some (PyData.int (Int.fmod (a : Int) (b : Int))) else none) = _
  rw [if_pos (by unfold okMod; rw [decide_eq_true_eq]; omega), Int.fmod_eq_emod_of_nonneg _ (by omega)]
  norm_cast
theorem oLt_n (a b : Nat) : oLt (dn a) (dn b) = some (.bool (decide (a < b))) := by
  show some (PyData.bool (decide ((a : Int) < (b : Int)))) = _
  rw [show decide ((a : Int) < (b : Int)) = decide (a < b) from decide_eq_decide.mpr (by omega)]
theorem oLe_n (a b : Nat) : oLe (dn a) (dn b) = some (.bool (decide (a ≤ b))) := by
  show some (PyData.bool (decide ((a : Int) ≤ (b : Int)))) = _
  rw [show decide ((a : Int) ≤ (b : Int)) = decide (a ≤ b) from decide_eq_decide.mpr (by omega)]
theorem oGt_n (a b : Nat) : oGt (dn a) (dn b) = some (.bool (decide (b < a))) := by
  show some (PyData.bool (decide ((b : Int) < (a : Int)))) = _
  rw [show decide ((b : Int) < (a : Int)) = decide (b < a) from decide_eq_decide.mpr (by omega)]
theorem oGe_n (a b : Nat) : oGe (dn a) (dn b) = some (.bool (decide (b ≤ a))) := by
  show some (PyData.bool (decide ((b : Int) ≤ (a : Int)))) = _
  rw [show decide ((b : Int) ≤ (a : Int)) = decide (b ≤ a) from decide_eq_decide.mpr (by omega)]
theorem atI_n {α : Type} (xs : List α) (i : Nat) : L2.atI xs (i : Int) = xs[i]? := by
  unfold L2.atI L2.ixN
  rw [if_pos (Int.natCast_nonneg i)]
  by_cases h : i < xs.length
  · rw [if_pos (by omega)]
    rfl
  · rw [if_neg (by omega)]
    simp [h]
theorem oIx_l (xs : List PyData) (i : Nat) : oIx (.list xs) (dn i) = xs[i]? := atI_n xs i
theorem oIx_t (xs : List PyData) (i : Nat) : oIx (.tuple xs) (dn i) = xs[i]? := atI_n xs i
theorem map_get (l : List Nat) (i : Nat) (h : i < l.length) : (l.map dn)[i]? = some (dn l[i]) := by
  rw [List.getElem?_map, List.getElem?_eq_getElem h]
  rfl

/-! ### loops -/
theorem forL_rel {tg : Tg} {b : MS} {P : Nat → Env → Prop} : ∀ (items : List PyData) (k : Nat) (ρ : Env), (∀ i d ρ, items[i]? = some d → P (k + i) ρ → ∃ ρ1 ρ2, tg.put d ρ = some ρ1 ∧ (b ρ1 = .nx ρ2 ∨ b ρ1 = .ct ρ2) ∧ P (k + i + 1) ρ2) → P k ρ → ∃ ρ', forL tg b items ρ = .nx ρ' ∧ P (k + items.length) ρ'
  | [], k, ρ, _, h0 => ⟨ρ, rfl, h0⟩
  | d :: ds, k, ρ, h, h0 => by
    obtain ⟨ρ1, ρ2, e1, e2, p2⟩ := h 0 d ρ rfl h0
    obtain ⟨ρ', e3, p3⟩ := forL_rel ds (k + 1) ρ2 (fun i d' ρ hd hp => by
      have := h (i + 1) d' ρ (by simpa using hd) (by rw [show k + (i + 1) = k + 1 + i by omega]; exact hp)
      rw [show k + (i + 1) + 1 = k + 1 + i + 1 by omega] at this
      exact this) p2
    refine ⟨ρ', ?_, by rw [List.length_cons, show k + (ds.length + 1) = k + 1 + ds.length by omega]; exact p3⟩
    unfold forL
    rw [e1]
    rcases e2 with e2 | e2 <;> (simp only [e2]; exact e3)
theorem forL_inv {tg : Tg} {b : MS} (P : Nat → Env → Prop) {items : List PyData} {ρ : Env} (h : ∀ i d ρ, items[i]? = some d → P i ρ → ∃ ρ1 ρ2, tg.put d ρ = some ρ1 ∧ (b ρ1 = .nx ρ2 ∨ b ρ1 = .ct ρ2) ∧ P (i + 1) ρ2) (h0 : P 0 ρ) : ∃ ρ', forL tg b items ρ = .nx ρ' ∧ P items.length ρ' := by
  have := forL_rel (tg := tg) (b := b) (P := P) items 0 ρ (fun i d ρ hd hp => by rw [Nat.zero_add] at hp ⊢; exact h i d ρ hd hp) h0
  rwa [Nat.zero_add] at this
theorem whileL_rel {t : Mb} {b : MS} (P : Nat → Env → Prop) : ∀ (k : Nat) (n : Nat) (ρ : Env), k < n → (∀ k ρ, P (k + 1) ρ → ∃ ρ1 ρ2, t ρ = .ok true ρ1 ∧ (b ρ1 = .nx ρ2 ∨ b ρ1 = .ct ρ2) ∧ ∃ j, j ≤ k ∧ P j ρ2) → (∀ ρ, P 0 ρ → ∃ ρ1, t ρ = .ok false ρ1 ∧ P 0 ρ1) → P k ρ → ∃ ρ', whileL t b n ρ = .nx ρ' ∧ P 0 ρ'
  | 0, n + 1, ρ, _, _, h0, hp => by
    obtain ⟨ρ1, e1, p1⟩ := h0 ρ hp
    refine ⟨ρ1, ?_, p1⟩
    unfold whileL
    rw [e1]
    rfl
  | k + 1, n + 1, ρ, hn, hs, h0, hp => by
    obtain ⟨ρ1, ρ2, e1, e2, j, hj, p2⟩ := hs k ρ hp
    obtain ⟨ρ', e3, p3⟩ := whileL_rel P j n ρ2 (by omega) hs h0 p2
    refine ⟨ρ', ?_, p3⟩
    unfold whileL
    rw [e1]
    rcases e2 with e2 | e2 <;> (simp only [R.toS, e2, if_true]; exact e3)
/-- a comprehension without side effects: its own name the slot j -/
theorem lcL_pure {j : Nat} {c : Mb} {e : M} {ρ : Env} (hj : ρ[j]? = some none) (val : PyData → Option O) : ∀ (items : List PyData), (∀ d ∈ items, ∃ b, c (ρ.set j (some (.d d))) = .ok b (ρ.set j (some (.d d))) ∧ (b = true → ∃ o, val d = some o ∧ e (ρ.set j (some (.d d))) = .ok (.o o) (ρ.set j (some (.d d)))) ∧ (b = false → val d = none)) →
    lcL (.n j) [j] c e items ρ = some (items.filterMap val, ρ)
  | [], _ => rfl
  | d :: ds, h => by
    have hl : j < ρ.length := (List.getElem?_eq_some_iff.mp hj).1
    have ih := lcL_pure hj val ds fun d m => h d (List.mem_cons_of_mem _ m)
    obtain ⟨b, e1, e2, e3⟩ := h d List.mem_cons_self
    have ds1 : dataSlots (ρ.set j (some (.d d))) [j] = true := by
      unfold dataSlots
      rw [List.all_cons]
      unfold dataAt
      rw [List.getElem?_set_self hl]
      rfl
    have ew : wipeE (ρ.set j (some (.d d))) [j] = ρ := by
      show (ρ.set j (some (.d d))).set j none = ρ
      rw [List.set_set]
      apply List.ext_getElem?
      intro k
      by_cases hk : j = k
      · subst hk
        rw [List.getElem?_set_self hl, hj]
      · rw [List.getElem?_set_ne hk]
    unfold lcL
    simp only [Tg.put, e1]
    cases b with
    | false =>
      simp only [Bool.false_eq_true, if_false, ds1, if_true, ew]
      rw [ih, List.filterMap_cons, e3 rfl]
    | true =>
      obtain ⟨o, v1, v2⟩ := e2 rfl
      simp only [if_true, v2, Rv.own, ds1, ew]
      rw [ih, List.filterMap_cons, v1]
theorem datL_d (xs : List PyData) : datL (xs.map O.d) = some xs := datL_map xs
theorem allD_d (xs : List PyData) : allD (xs.map O.d) = some xs := allD_map xs
end FL
end
section
set_option Elab.async false
set_option linter.all false
set_option maxRecDepth 100000
set_option autoImplicit false
namespace K50
open PySem FL
theorem and_one (k : Nat) : k &&& 1 = k % 2 := Nat.and_one_is_mod k
theorem has_spec (b n : Nat) : f_has [on b, on n] = .ok (.d (.bool (b.testBit n))) [] := by
  have h : decide (b >>> n &&& 1 = 1) = b.testBit n := by
    rw [Nat.testBit, Nat.and_comm 1 (b >>> n), Nat.and_one_is_mod]
    rcases Nat.mod_two_eq_zero_or_one (b >>> n) with e | e <;> simp [e]
  have h1 := oEq_n (b >>> n &&& 1) 1
  rw [h] at h1
  have h2 := oAnd_n (b >>> n) 1
  simp [f_has, fnOf, mSeq, mSet, mExpr, mRet, mRetN, mIfS, mSkip, mBad, mOp, mUn, mVar, mC, mTst, mAndT, mOrT, mNotT, mAndV, mOrV, mNotV, mIf, mCons, mNil, mCall, mCallB, mCallL, mTup, mLstD, mLstO, mFrz, mFor, mItems, mWalk, mWalkRg, mRg, mTake, mFz, mAug, mPar, mSetT, R.bind, R.toS, optR, view2, view1, Rv.view, O.view, Rv.datR, O.dat, datL, datRs, ownRs, Rv.own, viewRs, takeA, backA, outsE, allD, asB, tru, oEq_n, oNe_n, oAnd_n, oOr_n, oAdd_n, fAdd_n, oShr_n, oLt_n, oLe_n, oGt_n, oGe_n]
  simp only [show (PyData.int 1) = dn 1 from rfl, oAnd_n, h1]
theorem inside_spec (a b : Nat) : f_inside [on a, on b] = .ok (.d (.bool (decide (a &&& b = a)))) [] := by
  simp [f_inside, fnOf, mSeq, mSet, mExpr, mRet, mRetN, mIfS, mSkip, mBad, mOp, mUn, mVar, mC, mTst, mAndT, mOrT, mNotT, mAndV, mOrV, mNotV, mIf, mCons, mNil, mCall, mCallB, mCallL, mTup, mLstD, mLstO, mFrz, mFor, mItems, mWalk, mWalkRg, mRg, mTake, mFz, mAug, mPar, mSetT, R.bind, R.toS, optR, view2, view1, Rv.view, O.view, Rv.datR, O.dat, datL, datRs, ownRs, Rv.own, viewRs, takeA, backA, outsE, allD, asB, tru, oEq_n, oNe_n, oAnd_n, oOr_n, oAdd_n, fAdd_n, oShr_n, oLt_n, oLe_n, oGt_n, oGe_n]
theorem full_spec (n : Nat) (h : n ≤ 1000000) : f_full [on n] = .ok (on (2 ^ n - 1)) [] := by
  have h1 := oShl_n 1 n h (by omega)
  have h2 := oSub_n (1 <<< n) 1 (by rw [Nat.one_shiftLeft]; exact Nat.one_le_two_pow)
  rw [Nat.one_shiftLeft] at h1 h2
  simp only [show dn 1 = PyData.int 1 from rfl] at h1 h2
  simp [f_full, fnOf, mSeq, mSet, mExpr, mRet, mRetN, mIfS, mSkip, mBad, mOp, mUn, mVar, mC, mTst, mAndT, mOrT, mNotT, mAndV, mOrV, mNotV, mIf, mCons, mNil, mCall, mCallB, mCallL, mTup, mLstD, mLstO, mFrz, mFor, mItems, mWalk, mWalkRg, mRg, mTake, mFz, mAug, mPar, mSetT, R.bind, R.toS, optR, view2, view1, Rv.view, O.view, Rv.datR, O.dat, datL, datRs, ownRs, Rv.own, viewRs, takeA, backA, outsE, allD, asB, tru, oEq_n, oNe_n, oAnd_n, oOr_n, oAdd_n, fAdd_n, oShr_n, oLt_n, oLe_n, oGt_n, oGe_n, h1, h2]
/-- the union of the bits of a list -/
def orL (l : List Nat) : Nat := l.foldl (fun a k => a ||| 1 <<< k) 0
theorem orL_snoc (l : List Nat) (k : Nat) : orL (l ++ [k]) = orL l ||| 1 <<< k := by
  unfold orL
  rw [List.foldl_append]
  rfl
theorem take_snoc {α : Type} (l : List α) (i : Nat) (h : i < l.length) : l.take (i + 1) = l.take i ++ [l[i]] := by
  rw [List.take_add_one, List.getElem?_eq_getElem h]
  rfl
theorem map_at {l : List Nat} {i : Nat} {d : PyData} (h : (l.map dn)[i]? = some d) : ∃ hi : i < l.length, d = dn l[i] := by
  have hi : i < l.length := by
    have := (List.getElem?_eq_some_iff.mp h).1
    simpa using this
  refine ⟨hi, ?_⟩
  rw [map_get l i hi] at h
  exact (Option.some.inj h).symm
theorem bits_of_spec (l : List Nat) (h : ∀ k ∈ l, k ≤ 1000000) : f_bits_of [.d (ln l)] = .ok (on (orL l)) [] := by
  have loop : ∃ ρ', forL (.n 2) (mSet 1 (mOp oOr (mVar 1) (mOp oShl (mC (.int 1)) (mVar 2)))) (l.map dn) [some (.d (ln l)), some (.d (.int 0)), none] = .nx ρ' ∧ ∃ x, ρ' = [some (.d (ln l)), some (on (orL l)), x] := by
    have := forL_inv (tg := .n 2) (b := mSet 1 (mOp oOr (mVar 1) (mOp oShl (mC (.int 1)) (mVar 2)))) (fun i ρ => ∃ x, ρ = [some (.d (ln l)), some (on (orL (l.take i))), x]) (items := l.map dn) (ρ := [some (.d (ln l)), some (.d (.int 0)), none]) (by
      rintro i d ρ hd ⟨x, rfl⟩
      obtain ⟨hi, rfl⟩ := map_at hd
      have h1 := oShl_n 1 l[i] (h _ (List.getElem_mem hi)) (by omega)
      simp only [show dn 1 = PyData.int 1 from rfl] at h1
      refine ⟨_, _, rfl, .inl ?_, some (on l[i]), rfl⟩
      rw [take_snoc l i hi, orL_snoc]
      simp [fnOf, mSeq, mSet, mExpr, mRet, mRetN, mIfS, mSkip, mBad, mOp, mUn, mVar, mC, mTst, mAndT, mOrT, mNotT, mAndV, mOrV, mNotV, mIf, mCons, mNil, mCall, mCallB, mCallL, mTup, mLstD, mLstO, mFrz, mFor, mItems, mWalk, mWalkRg, mRg, mTake, mFz, mAug, mPar, mSetT, R.bind, R.toS, optR, view2, view1, Rv.view, O.view, Rv.datR, O.dat, datL, datRs, ownRs, Rv.own, viewRs, takeA, backA, outsE, allD, asB, tru, oEq_n, oNe_n, oAnd_n, oOr_n, oAdd_n, fAdd_n, oShr_n, oLt_n, oLe_n, oGt_n, oGe_n, h1]) ⟨none, rfl⟩
    simpa using this
  obtain ⟨ρ', e, x, rfl⟩ := loop
  simp [f_bits_of, fnOf, mSeq, mSet, mExpr, mRet, mRetN, mIfS, mSkip, mBad, mOp, mUn, mVar, mC, mTst, mAndT, mOrT, mNotT, mAndV, mOrV, mNotV, mIf, mCons, mNil, mCall, mCallB, mCallL, mTup, mLstD, mLstO, mFrz, mFor, mItems, mWalk, mWalkRg, mRg, mTake, mFz, mAug, mPar, mSetT, R.bind, R.toS, optR, view2, view1, Rv.view, O.view, Rv.datR, O.dat, datL, datRs, ownRs, Rv.own, viewRs, takeA, backA, outsE, allD, asB, tru, oEq_n, oNe_n, oAnd_n, oOr_n, oAdd_n, fAdd_n, oShr_n, oLt_n, oLe_n, oGt_n, oGe_n, e]
/-- the members of a set of naturals written as a number -/
def pos (b n : Nat) : List Nat := (List.range n).filter b.testBit
theorem pos_succ (b n : Nat) : pos b (n + 1) = pos b n ++ (if b.testBit n = true then [n] else []) := by
  unfold pos
  rw [List.range_succ, List.filter_append]
  congr 1
  by_cases h : b.testBit n = true <;> simp [h]
theorem pos_ge {b n : Nat} (h : b < 2 ^ n) : ∀ k, pos b (n + k) = pos b n
  | 0 => rfl
  | k + 1 => by
    rw [← Nat.add_assoc, pos_succ, pos_ge h k, if_neg, List.append_nil]
    rw [Nat.testBit_lt_two_pow (Nat.lt_of_lt_of_le h (Nat.pow_le_pow_right (by omega) (by omega)))]
    exact Bool.false_ne_true
theorem pos_eq {b n m : Nat} (h : b < 2 ^ n) (h2 : b < 2 ^ m) : pos b n = pos b m := by
  rcases Nat.le_total n m with q | q
  · rw [show m = n + (m - n) by omega, pos_ge h]
  · rw [show n = m + (n - m) by omega, pos_ge h2]
abbrev bl (b : Nat) : List Nat := pos b b
theorem bl_eq {b n : Nat} (h : b < 2 ^ n) : bl b = pos b n := pos_eq (Nat.lt_two_pow_self) h
theorem mem_pos {b n k : Nat} : k ∈ pos b n ↔ k < n ∧ b.testBit k = true := by
  unfold pos
  rw [List.mem_filter, List.mem_range]
theorem mem_bl {b k : Nat} : k ∈ bl b ↔ b.testBit k = true := by
  rw [mem_pos]
  constructor
  · exact fun h => h.2
  · intro h
    refine ⟨?_, h⟩
    have := Nat.ge_two_pow_of_testBit h
    exact Nat.lt_of_lt_of_le (Nat.lt_two_pow_self) this
theorem shr_zero {b n : Nat} (h : b >>> n = 0) : b < 2 ^ n := by
  rw [Nat.shiftRight_eq_div_pow] at h
  exact (Nat.div_eq_zero_iff_lt (Nat.two_pow_pos n)).mp h
theorem shr_one (b n : Nat) : (b >>> n) >>> 1 = b >>> (n + 1) := by rw [← Nat.shiftRight_add]
theorem shr_div (b n : Nat) : (b >>> n) / 2 = b >>> (n + 1) := by rw [Nat.shiftRight_succ]
theorem shr_mod (b n : Nat) : decide ((b >>> n) % 2 = 1) = b.testBit n := by
  rw [Nat.testBit, Nat.and_comm 1 (b >>> n), Nat.and_one_is_mod]
  rcases Nat.mod_two_eq_zero_or_one (b >>> n) with e | e <;> simp [e]
theorem pos_length (b n : Nat) : (pos b n).length ≤ n := by
  unfold pos
  exact Nat.le_trans (List.length_filter_le _ _) (by simp)
theorem shr_ne {b k N : Nat} (hb : b < 2 ^ N) (h : b >>> k ≠ 0) : k < N := by
  apply Classical.byContradiction
  intro q
  apply h
  rw [Nat.shiftRight_eq_div_pow]
  exact Nat.div_eq_of_lt (Nat.lt_of_lt_of_le hb (Nat.pow_le_pow_right (by omega) (by omega)))
theorem allD_on (l : List Nat) : allD (l.map on) = some (l.map dn) := by
  have := allD_map (l.map dn)
  rwa [List.map_map] at this
theorem members_spec (b : Nat) (hb : b < 2 ^ 1000) : f_members [on b] = .ok (.d (tn (bl b))) [] := by
  have loop := whileL_rel (t := mTst asB (mOp oGt (mVar 0) (mC (.int 0)))) (b := mSeq (mIfS (mTst asB (mOp oEq (mOp oAnd (mVar 0) (mC (.int 1))) (mC (.int 1)))) (mExpr (mAppend 1 (mVar 2))) mSkip) (mSeq (mSet 0 (mOp oShr (mVar 0) (mC (.int 1)))) (mAug fAdd 2 (mC (.int 1)))))
    (fun m ρ => ∃ k, m = b >>> k ∧ k ≤ 1000 ∧ ρ = [some (on (b >>> k)), some (.lst ((pos b k).map on)), some (on k)]) b (b + 1) [some (on b), some (.lst []), some (on 0)] (by omega) ?_ ?_ ⟨0, rfl, by omega, rfl⟩
  · obtain ⟨ρ', e, k, h0, hk, rfl⟩ := loop
    have e2 : (pos b k) = bl b := (bl_eq (shr_zero h0.symm)).symm
    rw [e2] at e
    simp only [show on 0 = O.d (.int 0) from rfl, mAug] at e
    simp [f_members, fnOf, mSeq, mSet, mExpr, mRet, mRetN, mIfS, mSkip, mBad, mOp, mUn, mVar, mC, mTst, mAndT, mOrT, mNotT, mAndV, mOrV, mNotV, mIf, mCons, mNil, mCall, mCallB, mCallL, mTup, mLstD, mLstO, mFrz, mFor, mItems, mWalk, mWalkRg, mRg, mTake, mFz, mAug, mPar, mSetT, R.bind, R.toS, optR, view2, view1, Rv.view, O.view, Rv.datR, O.dat, datL, datRs, ownRs, Rv.own, viewRs, takeA, backA, outsE, allD, asB, tru, oEq_n, oNe_n, oAnd_n, oOr_n, oAdd_n, fAdd_n, oShr_n, oLt_n, oLe_n, oGt_n, oGe_n, natAt, e, okLen, fTuple, allD_on]
  · rintro m ρ ⟨k, hm, hk, rfl⟩
    have hne : b >>> k ≠ 0 := by omega
    have hk2 := shr_ne hb hne
    have hd : decide (0 < b >>> k) = true := decide_eq_true (by omega)
    have h1 := oGt_n (b >>> k) 0
    rw [hd] at h1
    have h2 := oAnd_n (b >>> k) 1
    have h3 := oEq_n (b >>> k &&& 1) 1
    have h4 := oShr_n (b >>> k) 1
    have h5 := fAdd_n k 1
    rw [shr_one] at h4
    rw [Nat.and_one_is_mod, shr_mod] at h3
    rw [Nat.and_one_is_mod] at h2
    simp only [show dn 0 = PyData.int 0 from rfl] at h1
    simp only [show dn 1 = PyData.int 1 from rfl] at h2 h3 h4 h5
    have hl : (pos b k).length < 16777216 := by have := pos_length b k; omega
    refine ⟨[some (on (b >>> k)), some (.lst ((pos b k).map on)), some (on k)], [some (on (b >>> (k + 1))), some (.lst ((pos b (k + 1)).map on)), some (on (k + 1))], ?_, .inl ?_, b >>> (k + 1), ?_, k + 1, rfl, by omega, rfl⟩
    · simp [fnOf, mSeq, mSet, mExpr, mRet, mRetN, mIfS, mSkip, mBad, mOp, mUn, mVar, mC, mTst, mAndT, mOrT, mNotT, mAndV, mOrV, mNotV, mIf, mCons, mNil, mCall, mCallB, mCallL, mTup, mLstD, mLstO, mFrz, mFor, mItems, mWalk, mWalkRg, mRg, mTake, mFz, mAug, mPar, mSetT, R.bind, R.toS, optR, view2, view1, Rv.view, O.view, Rv.datR, O.dat, datL, datRs, ownRs, Rv.own, viewRs, takeA, backA, outsE, allD, asB, tru, oEq_n, oNe_n, oAnd_n, oOr_n, oAdd_n, fAdd_n, oShr_n, oLt_n, oLe_n, oGt_n, oGe_n, h1]
    · rw [pos_succ]
      cases hb' : b.testBit k <;> rw [hb'] at h3 <;> simp [fnOf, mSeq, mSet, mExpr, mRet, mRetN, mIfS, mSkip, mBad, mOp, mUn, mVar, mC, mTst, mAndT, mOrT, mNotT, mAndV, mOrV, mNotV, mIf, mCons, mNil, mCall, mCallB, mCallL, mTup, mLstD, mLstO, mFrz, mFor, mItems, mWalk, mWalkRg, mRg, mTake, mFz, mAug, mPar, mSetT, R.bind, R.toS, optR, view2, view1, Rv.view, O.view, Rv.datR, O.dat, datL, datRs, ownRs, Rv.own, viewRs, takeA, backA, outsE, allD, asB, tru, oEq_n, oNe_n, oAnd_n, oOr_n, oAdd_n, fAdd_n, oShr_n, oLt_n, oLe_n, oGt_n, oGe_n, h2, h3, h4, h5, mAppend, isL, List.length_map, hl]
    · rw [← shr_one, ← hm, Nat.shiftRight_eq_div_pow]
      omega
  · rintro ρ ⟨k, hm, hk, rfl⟩
    refine ⟨[some (on (b >>> k)), some (.lst ((pos b k).map on)), some (on k)], ?_, k, hm, hk, rfl⟩
    have h1 := oGt_n (b >>> k) 0
    rw [show decide (0 < b >>> k) = false from decide_eq_false (by omega)] at h1
    simp only [show dn 0 = PyData.int 0 from rfl] at h1
    simp [fnOf, mSeq, mSet, mExpr, mRet, mRetN, mIfS, mSkip, mBad, mOp, mUn, mVar, mC, mTst, mAndT, mOrT, mNotT, mAndV, mOrV, mNotV, mIf, mCons, mNil, mCall, mCallB, mCallL, mTup, mLstD, mLstO, mFrz, mFor, mItems, mWalk, mWalkRg, mRg, mTake, mFz, mAug, mPar, mSetT, R.bind, R.toS, optR, view2, view1, Rv.view, O.view, Rv.datR, O.dat, datL, datRs, ownRs, Rv.own, viewRs, takeA, backA, outsE, allD, asB, tru, oEq_n, oNe_n, oAnd_n, oOr_n, oAdd_n, fAdd_n, oShr_n, oLt_n, oLe_n, oGt_n, oGe_n, h1]
end K50
end
section
set_option Elab.async false
set_option linter.all false
set_option maxRecDepth 100000
set_option autoImplicit false
namespace FL
open PySem
theorem rangeL_n (n : Nat) : rangeL 0 n = (List.range n).map dn := by
  unfold rangeL
  refine List.map_congr_left fun i _ => ?_
  show PyData.int (0 + (i : Nat)) = PyData.int (i : Int)
  rw [Int.zero_add]
theorem rangeL_from (a n : Nat) : rangeL (a : Int) n = (List.range n).map fun i => dn (a + i) := by
  unfold rangeL
  refine List.map_congr_left fun i _ => ?_
  show PyData.int ((a : Int) + (i : Nat)) = PyData.int ((a + i : Nat) : Int)
  rw [Int.natCast_add]
theorem k1_n (n : Nat) (h : n < 1000000000) : k1 [dn n] = some ((List.range n).map dn) := by
  show (if small (n : Int) = true then some (rangeL 0 ((n : Int)).toNat) else none) = _
  rw [if_pos (show small (n : Int) = true from Nat.ble_eq_true_of_le (by omega)), Int.toNat_natCast, rangeL_n]
theorem walk_gen {kk : List PyData → Option (List PyData)} {m : M} {ρ ρ' : Env} {x : PyData} {zs : List PyData} (e : m ρ = .ok (.o (.d x)) ρ') (hk : kk [x] = some zs) : mWalk kk (mCons m mNil) ρ = .ok zs ρ' := by
  simp only [mWalk, mCons, mNil, e, R.bind, datRs, Rv.datR, O.dat, hk]
theorem walk1 {m : M} {ρ ρ' : Env} {n : Nat} (e : m ρ = .ok (.o (on n)) ρ') (h : n < 1000000000) : mWalk k1 (mCons m mNil) ρ = .ok ((List.range n).map dn) ρ' := walk_gen e (k1_n n h)
theorem okLen_n {α : Type} (l : List α) (h : l.length ≤ 16777216) : okLen l = true := decide_eq_true h
theorem dataSlots_none {ρ : Env} {j : Nat} (hj : ρ[j]? = some none) : dataSlots ρ [j] = true := by
  unfold dataSlots
  rw [List.all_cons]
  unfold dataAt
  rw [hj]
  rfl
theorem wipe_none {ρ : Env} {j : Nat} (hj : ρ[j]? = some none) : wipeE ρ [j] = ρ := by
  show ρ.set j none = ρ
  apply List.ext_getElem?
  intro k
  by_cases hk : j = k
  · subst hk
    rw [List.getElem?_set_self (List.getElem?_eq_some_iff.mp hj).1, hj]
  · rw [List.getElem?_set_ne hk]
/-- a comprehension over items, its own name j free before -/
theorem lc_gen {mi : Mi} {j : Nat} {c : Mb} {e : M} {ρ : Env} {items : List PyData} (hm : mi ρ = .ok items ρ) (hj : ρ[j]? = some none) (val : PyData → Option O)
    (h : ∀ d ∈ items, ∃ b, c (ρ.set j (some (.d d))) = .ok b (ρ.set j (some (.d d))) ∧ (b = true → ∃ o, val d = some o ∧ e (ρ.set j (some (.d d))) = .ok (.o o) (ρ.set j (some (.d d)))) ∧ (b = false → val d = none)) (hl : items.length ≤ 16777216) :
    mLc mi (.n j) [j] c e ρ = .ok (.o (.lst (items.filterMap val))) ρ := by
  have h1 := lcL_pure hj val items h
  have h2 : okLen (items.filterMap val) = true := okLen_n _ (Nat.le_trans (List.length_filterMap_le _ _) hl)
  simp only [mLc, hm, R.bind, dataSlots_none hj, if_true, wipe_none hj, h1, h2]
theorem fm_map (F : Nat → PyData) : ∀ l : List Nat, (l.map dn).filterMap (fun d => match d with | .int k => some (O.d (F k.toNat)) | _ => none) = l.map fun i => O.d (F i)
  | [] => rfl
  | i :: l => by
    rw [List.map_cons, List.map_cons, List.filterMap_cons, fm_map F l]
    rfl
theorem fm_filter (p : Nat → Bool) : ∀ l : List Nat, (l.map dn).filterMap (fun d => match d with | .int k => if p k.toNat = true then some (on k.toNat) else none | _ => none) = (l.filter p).map on
  | [] => rfl
  | i :: l => by
    rw [List.map_cons, List.filterMap_cons, fm_filter p l, List.filter_cons]
    by_cases hp : p i = true
    · have e : (if p ((i : Nat) : Int).toNat = true then some (on ((i : Nat) : Int).toNat) else none) = some (on i) := by rw [Int.toNat_natCast, if_pos hp]
      simp only [e, hp, if_true]
      rfl
    · have e : (if p ((i : Nat) : Int).toNat = true then some (on ((i : Nat) : Int).toNat) else none) = none := by rw [Int.toNat_natCast, if_neg hp]
      simp only [e, hp]
      simp
theorem lc_map {mi : Mi} {j : Nat} {e : M} {ρ : Env} {l : List Nat} (F : Nat → PyData) (hm : mi ρ = .ok (l.map dn) ρ) (hj : ρ[j]? = some none)
    (h : ∀ i ∈ l, e (ρ.set j (some (on i))) = .ok (.o (.d (F i))) (ρ.set j (some (on i)))) (hl : l.length ≤ 16777216) : mLc mi (.n j) [j] mYes e ρ = .ok (.o (.lst (l.map fun i => .d (F i)))) ρ := by
  have := lc_gen (c := mYes) (e := e) hm hj (fun d => match d with | .int k => some (.d (F k.toNat)) | _ => none) (fun d hd => by
    obtain ⟨i, hi, rfl⟩ := List.mem_map.mp hd
    exact ⟨true, rfl, fun _ => ⟨.d (F i), rfl, h i hi⟩, fun z => by cases z⟩) (by rw [List.length_map]; exact hl)
  rw [this]
  rw [fm_map]
/-- .. with a test -/
theorem lc_filter {mi : Mi} {j : Nat} {c : Mb} {ρ : Env} {l : List Nat} (p : Nat → Bool) (hm : mi ρ = .ok (l.map dn) ρ) (hj : ρ[j]? = some none)
    (h : ∀ i ∈ l, c (ρ.set j (some (on i))) = .ok (p i) (ρ.set j (some (on i)))) (hl : l.length ≤ 16777216) : mLc mi (.n j) [j] c (mVar j) ρ = .ok (.o (.lst ((l.filter p).map on))) ρ := by
  have hlen : j < ρ.length := (List.getElem?_eq_some_iff.mp hj).1
  have := lc_gen (c := c) (e := mVar j) hm hj (fun d => match d with | .int k => if p k.toNat = true then some (on k.toNat) else none | _ => none) (fun d hd => by
    obtain ⟨i, hi, rfl⟩ := List.mem_map.mp hd
    refine ⟨p i, h i hi, fun z => ⟨on i, ?_, ?_⟩, fun z => ?_⟩
    · show (if p i = true then some (on i) else none) = some (on i)
      rw [if_pos z]
    · unfold mVar
      rw [List.getElem?_set_self hlen]
    · show (if p i = true then some (on i) else none) = none
      rw [if_neg (by rw [z]; exact Bool.false_ne_true)]) (by rw [List.length_map]; exact hl)
  rw [this]
  rw [fm_filter]
theorem on_lst (l : List Nat) : l.map on = (l.map dn).map O.d := by rw [List.map_map]; rfl
theorem frz_on {m : M} {ρ ρ' : Env} {l : List Nat} (e : m ρ = .ok (.o (.lst (l.map on))) ρ') : mFrz m ρ = .ok (.o (.d (ln l))) ρ' := by
  unfold mFrz
  rw [e]
  show (match O.dat (.lst (l.map on)) with | some y => R.ok (Rv.o (O.d y)) ρ' | none => R.bad) = _
  rw [O.dat, on_lst, datL_map]
theorem frz_d {m : M} {ρ ρ' : Env} {xs : List PyData} (e : m ρ = .ok (.o (.lst (xs.map .d))) ρ') : mFrz m ρ = .ok (.o (.d (.list xs))) ρ' := by
  unfold mFrz
  rw [e]
  show (match O.dat (.lst (xs.map .d)) with | some y => R.ok (Rv.o (O.d y)) ρ' | none => R.bad) = _
  rw [O.dat, datL_map]
theorem tuple_on {m : M} {ρ ρ' : Env} {xs : List PyData} (e : m ρ = .ok (.o (.lst (xs.map .d))) ρ') : mCallB fTuple (mCons m mNil) ρ = .ok (.o (.d (.tuple xs))) ρ' := by
  unfold mCallB mCons mNil
  rw [e]
  show (match viewRs ρ' [Rv.o (.lst (xs.map .d))] with | some ys => optR (fTuple ys) ρ' | none => R.bad) = _
  have : viewRs ρ' [Rv.o (.lst (xs.map .d))] = some [.list xs] := by
    simp [viewRs, Rv.view, O.view, allD_map]
  rw [this]
  rfl
theorem call1 {m : M} {f : Fn} {ρ ρ' : Env} {x : O} {o : O} (e : m ρ = .ok (.o x) ρ') (hf : f [x] = .ok o []) : mCall [] 1 f (mCons m mNil) ρ = .ok (.o o) ρ' := by
  unfold mCall mCons mNil
  simp only [R.bind, e]
  simp [takeA, hf, backA]
theorem call2 {m m2 : M} {f : Fn} {ρ ρ' ρ2 : Env} {x y : O} {o : O} (e : m ρ = .ok (.o x) ρ') (e2 : m2 ρ' = .ok (.o y) ρ2) (hf : f [x, y] = .ok o []) : mCall [] 2 f (mCons m (mCons m2 mNil)) ρ = .ok (.o o) ρ2 := by
  unfold mCall mCons mNil
  simp only [R.bind, e, e2]
  simp [takeA, hf, backA]
theorem call3 {m m2 m3 : M} {f : Fn} {ρ ρ' ρ2 ρ3 : Env} {x y z : O} {o : O} (e : m ρ = .ok (.o x) ρ') (e2 : m2 ρ' = .ok (.o y) ρ2) (e3 : m3 ρ2 = .ok (.o z) ρ3) (hf : f [x, y, z] = .ok o []) : mCall [] 3 f (mCons m (mCons m2 (mCons m3 mNil))) ρ = .ok (.o o) ρ3 := by
  unfold mCall mCons mNil
  simp only [R.bind, e, e2, e3]
  simp [takeA, hf, backA]
theorem op2 {f : PyData → PyData → Option PyData} {m m2 : M} {ρ ρ' ρ2 : Env} {x y z : PyData} (e : m ρ = .ok (.o (.d x)) ρ') (e2 : m2 ρ' = .ok (.o (.d y)) ρ2) (hf : f x y = some z) : mOp f m m2 ρ = .ok (.o (.d z)) ρ2 := by
  unfold mOp
  simp only [R.bind, e, e2, view2, Rv.view, O.view, hf, optR]
theorem tst {m : M} {ρ ρ' : Env} {b : Bool} (e : m ρ = .ok (.o (.d (.bool b))) ρ') : mTst asB m ρ = .ok b ρ' := by
  unfold mTst
  simp only [R.bind, e, Rv.view, O.view, asB]
theorem tstT {m : M} {ρ ρ' : Env} {b : Bool} (e : m ρ = .ok (.o (.d (.bool b))) ρ') : mTst tru m ρ = .ok b ρ' := by
  unfold mTst
  simp only [R.bind, e, Rv.view, O.view, tru]
theorem len_t {m : M} {ρ ρ' : Env} {xs : List PyData} (e : m ρ = .ok (.o (.d (.tuple xs))) ρ') : mCallB fLen (mCons m mNil) ρ = .ok (.o (on xs.length)) ρ' := by
  unfold mCallB mCons mNil
  simp only [R.bind, e, viewRs, Rv.view, O.view, fLen, optR]
theorem len_l {m : M} {ρ ρ' : Env} {xs : List PyData} (e : m ρ = .ok (.o (.d (.list xs))) ρ') : mCallB fLen (mCons m mNil) ρ = .ok (.o (on xs.length)) ρ' := by
  unfold mCallB mCons mNil
  simp only [R.bind, e, viewRs, Rv.view, O.view, fLen, optR]
theorem var_d {i : Nat} {ρ : Env} {x : PyData} (h : ρ[i]? = some (some (.d x))) : mVar i ρ = .ok (.o (.d x)) ρ := by
  unfold mVar
  rw [h]
theorem items_l {m : M} {ρ ρ' : Env} {xs : List PyData} (e : m ρ = .ok (.o (.d (.list xs))) ρ') : mItems m ρ = .ok xs ρ' := by
  unfold mItems
  simp only [R.bind, e, Rv.datR, O.dat]
theorem items_t {m : M} {ρ ρ' : Env} {xs : List PyData} (e : m ρ = .ok (.o (.d (.tuple xs))) ρ') : mItems m ρ = .ok xs ρ' := by
  unfold mItems
  simp only [R.bind, e, Rv.datR, O.dat]
end FL
end
section
set_option Elab.async false
set_option linter.all false
set_option maxRecDepth 100000
set_option autoImplicit false
namespace K50
open PySem FL
/-! ### orders as lists of naturals -/
theorem testBit_orL (l : List Nat) (k : Nat) : (orL l).testBit k = decide (k ∈ l) := by
  have : ∀ (l : List Nat) (a : Nat), (l.foldl (fun a k => a ||| 1 <<< k) a).testBit k = (a.testBit k || decide (k ∈ l)) := by
    intro l
    induction l with
    | nil => intro a; simp
    | cons x l ih =>
      intro a
      rw [List.foldl_cons, ih, Nat.testBit_or, Nat.one_shiftLeft, Nat.testBit_two_pow]
      by_cases h : x = k
      · subst h; simp
      · have h' : ¬ k = x := fun z => h z.symm
        simp [h, h', List.mem_cons]
  unfold orL
  rw [this, Nat.zero_testBit, Bool.false_or]
theorem orL_lt {l : List Nat} {n : Nat} (h : ∀ k ∈ l, k < n) : orL l < 2 ^ n := by
  apply Nat.lt_pow_two_of_testBit
  intro i hi
  rw [testBit_orL]
  exact decide_eq_false fun m => by have := h i m; omega
def dual (us : List Nat) : List Nat := (List.range us.length).map fun p => orL ((List.range us.length).filter fun o => (us.getD o 0).testBit p)
theorem getD_at {us : List Nat} {i : Nat} (h : i < us.length) : us.getD i 0 = us[i] := by simp [List.getD_eq_getElem?_getD, h]
theorem ix_t {us : List Nat} {i : Nat} (h : i < us.length) : oIx (tn us) (dn i) = some (dn (us.getD i 0)) := by
  rw [oIx_t, map_get us i h, getD_at h]
theorem below_spec (us : List Nat) (h : us.length ≤ 1000) : f_below [.d (tn us)] = .ok (.d (tn (dual us))) [] := by
  have lenE : mCallB fLen (mCons (mVar 0) mNil) [some (.d (tn us)), none, none, none] = .ok (.o (on us.length)) [some (.d (tn us)), none, none, none] := by
    have := len_t (m := mVar 0) (ρ := [some (.d (tn us)), none, none, none]) (var_d rfl)
    rwa [List.length_map] at this
  have inner : ∀ p, mFrz (mLc (mWalk k1 (mCons (mVar 1) mNil)) (.n 2) [2] (mTst tru (mCall [] 2 f_has (mCons (mOp oIx (mVar 0) (mVar 2)) (mCons (mVar 3) mNil)))) (mVar 2)) [some (.d (tn us)), some (on us.length), none, some (on p)] =
      .ok (.o (.d (ln ((List.range us.length).filter fun o => (us.getD o 0).testBit p)))) [some (.d (tn us)), some (on us.length), none, some (on p)] := fun p =>
    frz_on (lc_filter (fun o => (us.getD o 0).testBit p) (walk1 (var_d rfl) (by omega)) rfl (fun i hi => by
      exact tstT (call2 (op2 (var_d rfl) (var_d rfl) (ix_t (List.mem_range.mp hi))) (var_d rfl) (has_spec _ _))) (by rw [List.length_range]; omega))
  have outer := tuple_on (m := mLc (mWalk k1 (mCons (mVar 1) mNil)) (.n 3) [3] mYes (mCall [] 1 f_bits_of (mCons (mFrz (mLc (mWalk k1 (mCons (mVar 1) mNil)) (.n 2) [2] (mTst tru (mCall [] 2 f_has (mCons (mOp oIx (mVar 0) (mVar 2)) (mCons (mVar 3) mNil)))) (mVar 2))) mNil))) (ρ := [some (.d (tn us)), some (on us.length), none, none])
    (xs := (dual us).map dn) (by
      have hmap := lc_map (mi := mWalk k1 (mCons (mVar 1) mNil)) (j := 3) (e := mCall [] 1 f_bits_of (mCons (mFrz (mLc (mWalk k1 (mCons (mVar 1) mNil)) (.n 2) [2] (mTst tru (mCall [] 2 f_has (mCons (mOp oIx (mVar 0) (mVar 2)) (mCons (mVar 3) mNil)))) (mVar 2))) mNil)) (ρ := [some (.d (tn us)), some (on us.length), none, none])
        (l := List.range us.length) (fun p => dn (orL ((List.range us.length).filter fun o => (us.getD o 0).testBit p))) (walk1 (var_d rfl) (by omega)) rfl (fun p hp => by
          have hb := bits_of_spec ((List.range us.length).filter fun o => (us.getD o 0).testBit p) (fun k hk => by
            have := List.mem_range.mp (List.mem_filter.mp hk).1
            omega)
          exact call1 (inner p) hb) (by rw [List.length_range]; omega)
      rw [hmap]
      unfold dual
      rw [List.map_map, List.map_map]
      rfl)
  unfold f_below fnOf mSeq mSet mRet
  simp only [List.map_cons, List.map_nil, List.length_cons, List.length_nil, List.replicate, List.cons_append, List.nil_append, lenE, R.toS, List.set]
  rw [outer]
  rfl
def leastF (us : List Nat) (b : Nat) : Option Nat := (bl b).find? fun p => decide (b &&& us.getD p 0 = b)
def optD : Option Nat → PyData
  | some k => dn k
  | none => .none
end K50
end
section
set_option Elab.async false
set_option linter.all false
set_option maxRecDepth 100000
set_option autoImplicit false
namespace FL
open PySem
/-- a walk that ends at the first hit -/
theorem forL_hit {j : Nat} {b : MS} {ρ : Env} (p : Nat → Bool) (o : Nat → O) : ∀ (l : List Nat), (∀ i ∈ l, (p i = true → b (ρ.set j (some (on i))) = .rt (o i) (ρ.set j (some (on i)))) ∧ (p i = false → b (ρ.set j (some (on i))) = .nx (ρ.set j (some (on i))))) → ∀ ρ1, (ρ1 = ρ ∨ ∃ x, ρ1 = ρ.set j x) →
    (∀ i, l.find? p = some i → forL (.n j) b (l.map dn) ρ1 = .rt (o i) (ρ.set j (some (on i)))) ∧ (l.find? p = none → ∃ ρ2, forL (.n j) b (l.map dn) ρ1 = .nx ρ2 ∧ (ρ2 = ρ ∨ ∃ x, ρ2 = ρ.set j x))
  | [], _, ρ1, h1 => ⟨fun i e => (nomatch e), fun _ => ⟨ρ1, rfl, h1⟩⟩
  | i :: l, h, ρ1, h1 => by
    have e1 : ρ1.set j (some (on i)) = ρ.set j (some (on i)) := by
      rcases h1 with h1 | ⟨x, h1⟩
      · rw [h1]
      · rw [h1, List.set_set]
    obtain ⟨hp, hn⟩ := h i List.mem_cons_self
    have ih := forL_hit p o l (fun k m => h k (List.mem_cons_of_mem _ m)) (ρ.set j (some (on i))) (.inr ⟨_, rfl⟩)
    cases hb : p i with
    | true =>
      refine ⟨fun k e => ?_, fun e => ?_⟩
      · rw [List.find?_cons, hb] at e
        cases e
        show forL (.n j) b (dn i :: l.map dn) ρ1 = _
        unfold forL
        simp only [Tg.put, e1, hp hb]
      · rw [List.find?_cons, hb] at e
        cases e
    | false =>
      refine ⟨fun k e => ?_, fun e => ?_⟩
      · rw [List.find?_cons, hb] at e
        show forL (.n j) b (dn i :: l.map dn) ρ1 = _
        unfold forL
        simp only [Tg.put, e1, hn hb]
        exact ih.1 k e
      · rw [List.find?_cons, hb] at e
        obtain ⟨ρ2, e2, h2⟩ := ih.2 e
        refine ⟨ρ2, ?_, h2⟩
        show forL (.n j) b (dn i :: l.map dn) ρ1 = _
        unfold forL
        simp only [Tg.put, e1, hn hb]
        exact e2
/-! ### straight on -/
theorem seq_nx {a b : MS} {ρ ρ1 : Env} {r : RS} (h : a ρ = .nx ρ1) (h2 : b ρ1 = r) : mSeq a b ρ = r := by
  unfold mSeq
  rw [h]
  exact h2
theorem seq_rt {a b : MS} {ρ ρ1 : Env} {o : O} (h : a ρ = .rt o ρ1) : mSeq a b ρ = .rt o ρ1 := by
  unfold mSeq
  rw [h]
theorem set_ok {i : Nat} {m : M} {ρ ρ' : Env} {o : O} (h : m ρ = .ok (.o o) ρ') : mSet i m ρ = .nx (ρ'.set i (some o)) := by
  unfold mSet
  rw [h]
  rfl
theorem ret_ok {m : M} {ρ ρ' : Env} {o : O} (h : m ρ = .ok (.o o) ρ') : mRet m ρ = .rt o ρ' := by
  unfold mRet
  rw [h]
  rfl
theorem expr_ok {m : M} {ρ ρ' : Env} {x : Rv} (h : m ρ = .ok x ρ') : mExpr m ρ = .nx ρ' := by
  unfold mExpr
  rw [h]
  rfl
theorem for_ok {mi : Mi} {tg : Tg} {b : MS} {ρ ρ1 : Env} {ds : List PyData} {r : RS} (h : mi ρ = .ok ds ρ1) (h2 : forL tg b ds ρ1 = r) : mFor mi tg b ρ = r := by
  unfold mFor
  rw [h]
  exact h2
theorem if_t {t : Mb} {a b : MS} {ρ ρ1 : Env} {r : RS} (h : t ρ = .ok true ρ1) (h2 : a ρ1 = r) : mIfS t a b ρ = r := by
  unfold mIfS
  rw [h]
  exact h2
theorem if_f {t : Mb} {a b : MS} {ρ ρ1 : Env} {r : RS} (h : t ρ = .ok false ρ1) (h2 : b ρ1 = r) : mIfS t a b ρ = r := by
  unfold mIfS
  rw [h]
  exact h2
theorem fn_rt {io : List Nat} {len : Nat} {m : MS} {os : List O} {ρ' : Env} {o : O} {outs : List O} (h : m (os.map some ++ List.replicate (len - os.length) none) = .rt o ρ') (ho : outsE io ρ' = some outs) : fnOf io len m os = .ok o outs := by
  unfold fnOf
  rw [h]
  simp only [ho]
theorem fn_nx {io : List Nat} {len : Nat} {m : MS} {os : List O} {ρ' : Env} {outs : List O} (h : m (os.map some ++ List.replicate (len - os.length) none) = .nx ρ') (ho : outsE io ρ' = some outs) : fnOf io len m os = .ok (.d .none) outs := by
  unfold fnOf
  rw [h]
  simp only [ho]
theorem not_t {t : Mb} {ρ ρ1 : Env} {b : Bool} (h : t ρ = .ok b ρ1) : mNotT t ρ = .ok (!b) ρ1 := by
  unfold mNotT
  rw [h]
  rfl
theorem and_tt {a b : Mb} {ρ ρ1 : Env} {r : R Bool} (h : a ρ = .ok true ρ1) (h2 : b ρ1 = r) : mAndT a b ρ = r := by
  unfold mAndT
  rw [h]
  exact h2
theorem and_ff {a b : Mb} {ρ ρ1 : Env} (h : a ρ = .ok false ρ1) : mAndT a b ρ = .ok false ρ1 := by
  unfold mAndT
  rw [h]
  rfl
theorem or_t {a b : Mb} {ρ ρ1 : Env} (h : a ρ = .ok true ρ1) : mOrT a b ρ = .ok true ρ1 := by
  unfold mOrT
  rw [h]
  rfl
theorem or_f {a b : Mb} {ρ ρ1 : Env} {r : R Bool} (h : a ρ = .ok false ρ1) (h2 : b ρ1 = r) : mOrT a b ρ = r := by
  unfold mOrT
  rw [h]
  exact h2
theorem int_n {m : M} {ρ ρ' : Env} {n : Nat} (e : m ρ = .ok (.o (on n)) ρ') : mCallB fInt (mCons m mNil) ρ = .ok (.o (on n)) ρ' := by
  unfold mCallB mCons mNil
  simp only [R.bind, e, viewRs, Rv.view, O.view, fInt, optR]
/-! ### ints in order, each once -/
def insN (x : Nat) : List Nat → List Nat
  | [] => [x]
  | y :: ys => if x < y then x :: y :: ys else if x = y then y :: ys else y :: insN x ys
def sortN : List Nat → List Nat
  | [] => []
  | x :: xs => insN x (sortN xs)
theorem insN_int (x : Nat) : ∀ ys : List Nat, insU (x : Int) (ys.map fun k : Nat => (k : Int)) = (insN x ys).map fun k : Nat => (k : Int)
  | [] => rfl
  | y :: ys => by
    rw [List.map_cons]
    unfold insU insN
    by_cases h : x < y
    · rw [if_pos h, if_pos (by omega)]; rfl
    · rw [if_neg h, if_neg (by omega)]
      by_cases h2 : x = y
      · rw [if_pos h2, if_pos (by omega)]; rfl
      · rw [if_neg h2, if_neg (by omega), insN_int x ys]; rfl
theorem sortN_int : ∀ xs : List Nat, sortU (xs.map fun k : Nat => (k : Int)) = (sortN xs).map fun k : Nat => (k : Int)
  | [] => rfl
  | x :: xs => by
    rw [List.map_cons]
    unfold sortU sortN
    rw [sortN_int xs, insN_int]
theorem intsOf_n : ∀ xs : List Nat, intsOf (xs.map dn) = some (xs.map fun k : Nat => (k : Int))
  | [] => rfl
  | x :: xs => by
    rw [List.map_cons, List.map_cons]
    unfold intsOf
    rw [intsOf_n xs]
theorem sortN_mem (y : Nat) (xs : List Nat) : y ∈ sortN xs ↔ y ∈ xs := by
  have h := sortU_mem (y : Int) (xs.map fun k : Nat => (k : Int))
  rw [sortN_int] at h
  simp only [List.mem_map] at h
  constructor
  · intro m
    obtain ⟨z, hz, e⟩ := h.mp ⟨y, m, rfl⟩
    have : z = y := by omega
    exact this ▸ hz
  · intro m
    obtain ⟨z, hz, e⟩ := h.mpr ⟨y, m, rfl⟩
    have : z = y := by omega
    exact this ▸ hz
theorem sortN_sorted (xs : List Nat) : (sortN xs).Pairwise (· < ·) := by
  have h := sortU_sorted (xs.map fun k : Nat => (k : Int))
  rw [sortN_int, List.pairwise_map] at h
  exact h.imp fun q => by omega
theorem insN_length (x : Nat) : ∀ ys : List Nat, (insN x ys).length ≤ ys.length + 1
  | [] => Nat.le_refl _
  | y :: ys => by
    unfold insN
    have := insN_length x ys
    split
    · simp
    · split <;> simp <;> omega
theorem sortN_length : ∀ xs : List Nat, (sortN xs).length ≤ xs.length
  | [] => Nat.le_refl _
  | x :: xs => by
    unfold sortN
    have := insN_length x (sortN xs)
    have := sortN_length xs
    simp
    omega
theorem lSortU_n (xs : List Nat) (h1 : xs.length < 4000) (h2 : (sortN xs).length < 64) : lSortU [ln xs] = some ((sortN xs).map dn) := by
  have e : lSortU [ln xs] = (match intsOf (xs.map dn) with | some ns => if decide (ns.length < 4000) = true then (if decide ((sortU ns).length < 64) = true then some (ofInts (sortU ns)) else none) else none | none => none) := rfl
  rw [e, intsOf_n]
  simp only [List.length_map, sortN_int, h1, h2, decide_true, if_true]
  congr 1
  unfold ofInts
  rw [List.map_map]
  rfl
theorem lSortU_t (xs : List Nat) (h1 : xs.length < 4000) (h2 : (sortN xs).length < 64) : lSortU [tn xs] = some ((sortN xs).map dn) := by
  have e : lSortU [tn xs] = (match intsOf (xs.map dn) with | some ns => if decide (ns.length < 4000) = true then (if decide ((sortU ns).length < 64) = true then some (ofInts (sortU ns)) else none) else none | none => none) := rfl
  rw [e, intsOf_n]
  simp only [List.length_map, sortN_int, h1, h2, decide_true, if_true]
  congr 1
  unfold ofInts
  rw [List.map_map]
  rfl
theorem sortU_v {m : M} {ρ ρ' : Env} {xs : List Nat} {x : PyData} (hx : x = ln xs ∨ x = tn xs) (e : m ρ = .ok (.o (.d x)) ρ') (h1 : xs.length < 4000) (h2 : (sortN xs).length < 64) : mCallL lSortU (mCons m mNil) ρ = .ok (.o (.lst ((sortN xs).map on))) ρ' := by
  have h : lSortU [x] = some ((sortN xs).map dn) := by
    rcases hx with rfl | rfl
    · exact lSortU_n xs h1 h2
    · exact lSortU_t xs h1 h2
  unfold mCallL mCons mNil
  simp only [R.bind, e, viewRs, Rv.view, O.view, h]
  rw [← on_lst]
theorem sortU_o {m : M} {ρ ρ' : Env} {xs : List Nat} (e : m ρ = .ok (.o (.lst (xs.map on))) ρ') (h1 : xs.length < 4000) (h2 : (sortN xs).length < 64) : mCallL lSortU (mCons m mNil) ρ = .ok (.o (.lst ((sortN xs).map on))) ρ' := by
  unfold mCallL mCons mNil
  have ha : allD (xs.map on) = some (xs.map dn) := by rw [on_lst, allD_map]
  simp only [R.bind, e, viewRs, Rv.view, O.view, ha, lSortU_n xs h1 h2]
  rw [← on_lst]
end FL
namespace FL
open PySem
theorem tuple_own {i : Nat} {ρ : Env} {xs : List PyData} (h : ρ[i]? = some (some (.lst (xs.map .d)))) : mCallB fTuple (mCons (mVar i) mNil) ρ = .ok (.o (.d (.tuple xs))) ρ := by
  have e : mVar i ρ = .ok (.s i) ρ := by
    unfold mVar
    rw [h]
  unfold mCallB mCons mNil
  simp only [R.bind, e, viewRs, Rv.view, h, O.view, allD_map, fTuple, optR]
theorem append_ok {j : Nat} {m : M} {ρ ρ1 : Env} {os : List O} {o : O} (h0 : isL ρ j = true) (h1 : ρ1[j]? = some (some (.lst os))) (e : m ρ = .ok (.o o) ρ1) (hl : os.length < 16777216) : mAppend j m ρ = .ok (.o (.d .none)) (ρ1.set j (some (.lst (os ++ [o])))) := by
  unfold mAppend
  rw [h0, if_pos rfl]
  simp only [R.bind, e, Rv.own, h1]
  rw [if_pos (decide_eq_true hl)]
end FL
namespace FL
open PySem
/-- a list of one's own, of data -/
abbrev ol (xs : List PyData) : O := .lst (xs.map .d)
theorem own_var {j : Nat} {ρ : Env} {os : List O} (h : ρ[j]? = some (some (.lst os))) : mVar j ρ = .ok (.s j) ρ := by
  unfold mVar
  rw [h]
theorem own_ix {j k : Nat} {ρ : Env} {xs : List PyData} {x : PyData} {m : M} (h : ρ[j]? = some (some (ol xs))) (e : m ρ = .ok (.o (on k)) ρ) (hx : xs[k]? = some x) : mOp oIx (mVar j) m ρ = .ok (.o (.d x)) ρ := by
  unfold mOp
  simp only [R.bind, own_var h, e, view2, Rv.view, h, O.view, allD_map, oIx_l, hx, optR]
theorem own_len {j : Nat} {ρ : Env} {xs : List PyData} (h : ρ[j]? = some (some (ol xs))) : mCallB fLen (mCons (mVar j) mNil) ρ = .ok (.o (on xs.length)) ρ := by
  unfold mCallB mCons mNil
  simp only [R.bind, own_var h, viewRs, Rv.view, h, O.view, allD_map, fLen, optR]
theorem ixN_n {n k : Nat} (h : k < n) : L2.ixN n (k : Int) = some k := by
  unfold L2.ixN
  rw [if_pos (Int.natCast_nonneg k), if_pos (by omega)]
  rfl
theorem setIx_ok {j k : Nat} {mv mi : M} {ρ : Env} {os : List O} {o : O} (e : mv ρ = .ok (.o o) ρ) (h : ρ[j]? = some (some (.lst os))) (e2 : mi ρ = .ok (.o (on k)) ρ) (hk : k < os.length) : mSetIx j mv mi ρ = .nx (ρ.set j (some (.lst (os.set k o)))) := by
  have hL : isL ρ j = true := by unfold isL; rw [h]
  have hi : intR ρ (.o (on k)) = some (k : Int) := rfl
  unfold mSetIx
  simp only [R.toS, e, Rv.own, hL, if_true, e2, hi, h, ixN_n hk]
theorem abs_i {m : M} {ρ ρ' : Env} {c : Int} (e : m ρ = .ok (.o (.d (.int c))) ρ') : mCallB fAbs (mCons (mCallB fInt (mCons m mNil)) mNil) ρ = .ok (.o (on c.natAbs)) ρ' := by
  have h1 : mCallB fInt (mCons m mNil) ρ = .ok (.o (.d (.int c))) ρ' := by
    unfold mCallB mCons mNil
    simp only [R.bind, e, viewRs, Rv.view, O.view, fInt, optR]
  have h2 : (if c < 0 then -c else c) = ((c.natAbs : Nat) : Int) := by
    split <;> omega
  generalize hm : mCallB fInt (mCons m mNil) = mm at h1
  unfold mCallB mCons mNil
  simp only [R.bind, h1, viewRs, Rv.view, O.view, fAbs, optR, h2]
theorem int_i {m : M} {ρ ρ' : Env} {c : Int} (e : m ρ = .ok (.o (.d (.int c))) ρ') : mCallB fInt (mCons m mNil) ρ = .ok (.o (.d (.int c))) ρ' := by
  unfold mCallB mCons mNil
  simp only [R.bind, e, viewRs, Rv.view, O.view, fInt, optR]
theorem oMod_i (c : Int) (b : Nat) (h : 0 < b) : oMod (.int c) (dn b) = some (dn (c % (b : Int)).toNat) := by
  show (if okMod c (b : Int) = true then some (PyData.int (Int.fmod c (b : Int))) else none) = _
  rw [if_pos (by unfold okMod; rw [decide_eq_true_eq]; omega), Int.fmod_eq_emod_of_nonneg _ (by omega)]
  have := Int.emod_nonneg c (show (b : Int) ≠ 0 by omega)
  congr 2
  omega
theorem ofInts_get {s : List Int} {i : Nat} (h : i < s.length) : (ofInts s)[i]? = some (.int s[i]) := by
  unfold ofInts
  rw [List.getElem?_map, List.getElem?_eq_getElem h]
  rfl
theorem ofInts_length (s : List Int) : (ofInts s).length = s.length := by
  unfold ofInts
  rw [List.length_map]
end FL
namespace FL
open PySem
theorem setIxD {j k : Nat} {mv mi : M} {ρ : Env} {xs : List PyData} {x : PyData} (e : mv ρ = .ok (.o (.d x)) ρ) (h : ρ[j]? = some (some (ol xs))) (e2 : mi ρ = .ok (.o (on k)) ρ) (hk : k < xs.length) : mSetIx j mv mi ρ = .nx (ρ.set j (some (ol (xs.set k x)))) := by
  rw [setIx_ok e h e2 (by rw [List.length_map]; exact hk)]
  unfold ol
  rw [List.map_set]
end FL
end
section
set_option Elab.async false
set_option linter.all false
set_option maxRecDepth 100000
set_option autoImplicit false
namespace K50
open PySem FL
theorem start3 (a b c : O) (k : Nat) : ([a, b, c] : List O).map some ++ List.replicate (k + 3 - [a, b, c].length) none = some a :: some b :: some c :: List.replicate k none := rfl
theorem least_spec (us : List Nat) (b : Nat) (hb : b < 2 ^ 1000) (h : ∀ i ∈ bl b, i < us.length) : f_least_of [.d (tn us), on b] = .ok (.d (optD (leastF us b))) [] := by
  have hit := forL_hit (j := 2) (ρ := [some (.d (tn us)), some (on b), none]) (b := mIfS (mTst tru (mCall [] 2 f_inside (mCons (mVar 1) (mCons (mOp oIx (mVar 0) (mVar 2)) mNil)))) (mRet (mVar 2)) mSkip)
    (fun p => decide (b &&& us.getD p 0 = b)) on (bl b) (fun i hi => by
      have ht : mTst tru (mCall [] 2 f_inside (mCons (mVar 1) (mCons (mOp oIx (mVar 0) (mVar 2)) mNil))) [some (.d (tn us)), some (on b), some (on i)] = .ok (decide (b &&& us.getD i 0 = b)) [some (.d (tn us)), some (on b), some (on i)] :=
        tstT (call2 (var_d rfl) (op2 (var_d rfl) (var_d rfl) (ix_t (h i hi))) (inside_spec _ _))
      constructor
      · intro hp
        show mIfS _ _ _ [some (.d (tn us)), some (on b), some (on i)] = _
        simp only [mIfS, ht, hp, R.toS, if_true, mRet]
        rfl
      · intro hp
        show mIfS _ _ _ [some (.d (tn us)), some (on b), some (on i)] = _
        simp only [mIfS, ht, hp, R.toS, Bool.false_eq_true, if_false]
        rfl) [some (.d (tn us)), some (on b), none] (.inl rfl)
  have hm : mItems (mCall [] 1 f_members (mCons (mVar 1) mNil)) [some (.d (tn us)), some (on b), none] = .ok ((bl b).map dn) [some (.d (tn us)), some (on b), none] := items_t (call1 (var_d rfl) (members_spec b hb))
  unfold f_least_of fnOf mSeq mFor
  simp only [List.map_cons, List.map_nil, List.length_cons, List.length_nil, List.replicate, List.cons_append, List.nil_append, hm, R.toS]
  cases e : leastF us b with
  | some i =>
    rw [hit.1 i e]
    rfl
  | none =>
    obtain ⟨ρ2, e2, h2⟩ := hit.2 e
    rw [e2]
    rcases h2 with rfl | ⟨x, rfl⟩ <;> rfl
theorem law_bit_spec (x : Nat) (h : x < 1000000000) : f_law_bit [on x] = .ok (on (2 ^ x)) [] := by
  have loop := forL_inv (tg := .n 2) (b := mSet 1 (mOp oMulI (mC (.int 2)) (mVar 1))) (fun i ρ => ∃ y, ρ = [some (on x), some (on (2 ^ i)), y]) (items := (List.range x).map dn) (ρ := [some (on x), some (on 1), none]) (by
    rintro i d ρ hd ⟨y, rfl⟩
    obtain ⟨hi, rfl⟩ := map_at hd
    refine ⟨_, _, rfl, .inl ?_, some (on (List.range x)[i]), rfl⟩
    have h1 := oMul_n 2 (2 ^ i) (.inl (by omega))
    have h2 : mOp oMulI (mC (.int 2)) (mVar 1) [some (on x), some (on (2 ^ i)), some (on (List.range x)[i])] = .ok (.o (on (2 * 2 ^ i))) [some (on x), some (on (2 ^ i)), some (on (List.range x)[i])] := op2 rfl (var_d rfl) h1
    show mSet 1 _ [some (on x), some (on (2 ^ i)), some (on (List.range x)[i])] = _
    simp only [mSet, h2, R.toS]
    rw [Nat.pow_succ, Nat.mul_comm]
    rfl) ⟨none, rfl⟩
  obtain ⟨ρ', e, y, rfl⟩ := loop
  rw [List.length_map, List.length_range] at e
  exact fn_rt (seq_nx (set_ok rfl) (seq_nx (for_ok (walk1 (var_d rfl) h) e) (ret_ok (var_d rfl)))) rfl
theorem law_inside_spec (a b : Nat) : f_law_inside [on a, on b] = .ok (.d (.bool (decide (a &&& b = a)))) [] :=
  fn_rt (ret_ok (op2 (op2 (var_d rfl) (var_d rfl) (oAnd_n a b)) (var_d rfl) (oEq_n (a &&& b) a))) rfl
theorem law_has_spec (b x : Nat) (h : x < 30) : f_law_has [on b, on x] = .ok (.d (.bool (b.testBit x))) [] := by
  have h1 : 2 ^ x < 1073741824 := Nat.lt_of_lt_of_le (Nat.pow_lt_pow_right (by omega) h) (by decide)
  have h2 := oEq_n (b / 2 ^ x % 2) 1
  rw [← Nat.shiftRight_eq_div_pow, shr_mod] at h2
  refine fn_rt (ret_ok (op2 (op2 (int_n (op2 (var_d rfl) (call1 (var_d rfl) (law_bit_spec x (by omega))) (oDiv_n b (2 ^ x) (Nat.two_pow_pos x) h1))) rfl (oMod_n (b / 2 ^ x) 2 (by omega))) rfl ?_)) rfl
  rw [← Nat.shiftRight_eq_div_pow]
  exact h2
end K50
end
section
set_option Elab.async false
set_option linter.all false
set_option maxRecDepth 100000
set_option autoImplicit false
namespace K50
open PySem FL
theorem eq_of_bits {a b : Nat} (h : ∀ k, a.testBit k = b.testBit k) : a = b := Nat.eq_of_testBit_eq h
theorem orL_congr {l l' : List Nat} (h : ∀ k, k ∈ l ↔ k ∈ l') : orL l = orL l' := eq_of_bits fun k => by
  rw [testBit_orL, testBit_orL]
  exact decide_eq_decide.mpr (h k)
theorem orL_add {l : List Nat} {x : Nat} (h : ∀ k ∈ l, k < x) : orL l + 2 ^ x = orL (l ++ [x]) := by
  have h1 := Nat.two_pow_add_eq_or_of_lt (orL_lt h) 1
  rw [Nat.mul_one] at h1
  rw [Nat.add_comm, h1, orL_snoc, Nat.one_shiftLeft, Nat.or_comm]
theorem law_bits_spec (l : List Nat) (h1 : l.length < 4000) (h2 : (sortN l).length < 64) (h3 : ∀ k ∈ l, k < 1000000000) : f_law_bits [.d (ln l)] = .ok (on (orL l)) [] := by
  have hs := sortN_sorted l
  have loop := forL_inv (tg := .n 2) (b := mSet 1 (mOp oAdd (mVar 1) (mCall [] 1 f_law_bit (mCons (mVar 2) mNil)))) (fun i ρ => ∃ y, ρ = [some (.d (ln l)), some (on (orL ((sortN l).take i))), y]) (items := (sortN l).map dn) (ρ := [some (.d (ln l)), some (on 0), none]) (by
    rintro i d ρ hd ⟨y, rfl⟩
    obtain ⟨hi, rfl⟩ := map_at hd
    refine ⟨_, _, rfl, .inl ?_, some (on (sortN l)[i]), rfl⟩
    have hm : (sortN l)[i] ∈ l := (sortN_mem _ _).mp (List.getElem_mem hi)
    have hlt : ∀ k ∈ (sortN l).take i, k < (sortN l)[i] := fun k hk => by
      obtain ⟨j, hj, e⟩ := List.mem_iff_getElem.mp hk
      rw [List.getElem_take] at e
      rw [← e]
      rw [List.length_take] at hj
      exact List.pairwise_iff_getElem.mp hs j i (by omega) hi (by omega)
    rw [take_snoc _ i hi, ← orL_add hlt]
    exact set_ok (op2 (var_d rfl) (call1 (var_d rfl) (law_bit_spec _ (h3 _ hm))) (oAdd_n _ _))) ⟨none, rfl⟩
  obtain ⟨ρ', e, y, rfl⟩ := loop
  rw [List.length_map, List.take_length] at e
  have e2 : orL (sortN l) = orL l := orL_congr fun k => sortN_mem k l
  rw [e2] at e
  exact fn_rt (seq_nx (set_ok rfl) (seq_nx (for_ok (items_l (frz_on (sortU_v (.inl rfl) (var_d rfl) h1 h2))) e) (ret_ok (var_d rfl)))) rfl
theorem law_downs_spec (us : List Nat) (h : us.length ≤ 29) : f_law_downs [.d (tn us)] = .ok (.d (tn (dual us))) [] := by
  have lenE : mCallB fLen (mCons (mVar 0) mNil) [some (.d (tn us)), none, none, none] = .ok (.o (on us.length)) [some (.d (tn us)), none, none, none] := by
    have := len_t (m := mVar 0) (ρ := [some (.d (tn us)), none, none, none]) (var_d rfl)
    rwa [List.length_map] at this
  have inner : ∀ p, p < us.length → mFrz (mLc (mWalk k1 (mCons (mVar 1) mNil)) (.n 2) [2] (mTst tru (mCall [] 2 f_law_has (mCons (mOp oIx (mVar 0) (mVar 2)) (mCons (mVar 3) mNil)))) (mVar 2)) [some (.d (tn us)), some (on us.length), none, some (on p)] =
      .ok (.o (.d (ln ((List.range us.length).filter fun o => (us.getD o 0).testBit p)))) [some (.d (tn us)), some (on us.length), none, some (on p)] := fun p hp =>
    frz_on (lc_filter (fun o => (us.getD o 0).testBit p) (walk1 (var_d rfl) (by omega)) rfl (fun i hi => by
      exact tstT (call2 (op2 (var_d rfl) (var_d rfl) (ix_t (List.mem_range.mp hi))) (var_d rfl) (law_has_spec _ _ (by omega)))) (by rw [List.length_range]; omega))
  have hmap := lc_map (mi := mWalk k1 (mCons (mVar 1) mNil)) (j := 3) (e := mCall [] 1 f_law_bits (mCons (mFrz (mLc (mWalk k1 (mCons (mVar 1) mNil)) (.n 2) [2] (mTst tru (mCall [] 2 f_law_has (mCons (mOp oIx (mVar 0) (mVar 2)) (mCons (mVar 3) mNil)))) (mVar 2))) mNil)) (ρ := [some (.d (tn us)), some (on us.length), none, none])
    (l := List.range us.length) (fun p => dn (orL ((List.range us.length).filter fun o => (us.getD o 0).testBit p))) (walk1 (var_d rfl) (by omega)) rfl (fun p hp => by
      have hl : ((List.range us.length).filter fun o => (us.getD o 0).testBit p).length ≤ us.length := Nat.le_trans (List.length_filter_le _ _) (by simp)
      have hs := sortN_length ((List.range us.length).filter fun o => (us.getD o 0).testBit p)
      have hb := law_bits_spec ((List.range us.length).filter fun o => (us.getD o 0).testBit p) (by omega) (by omega) (fun k hk => by
        have := List.mem_range.mp (List.mem_filter.mp hk).1
        omega)
      exact call1 (inner p (List.mem_range.mp hp)) hb) (by rw [List.length_range]; omega)
  have hd : ((List.range us.length).map fun p => O.d (dn (orL ((List.range us.length).filter fun o => (us.getD o 0).testBit p)))) = ((dual us).map dn).map O.d := by
    unfold dual
    rw [List.map_map, List.map_map]
    rfl
  rw [hd] at hmap
  exact fn_rt (seq_nx (set_ok lenE) (ret_ok (tuple_on hmap))) rfl
theorem law_members_spec (b : Nat) (hb : b < 2 ^ 1000) : f_law_members [on b] = .ok (.d (tn (bl b))) [] := by
  have loop := whileL_rel (t := mTst asB (mOp oGt (mVar 0) (mC (.int 0)))) (b := mSeq (mIfS (mTst asB (mOp oEq (mOp oMod (mCallB fInt (mCons (mVar 0) mNil)) (mC (.int 2))) (mC (.int 1)))) (mExpr (mAppend 1 (mVar 2))) mSkip) (mSeq (mSet 0 (mOp oDiv (mVar 0) (mC (.int 2)))) (mSet 2 (mOp oAdd (mVar 2) (mC (.int 1))))))
    (fun m ρ => ∃ k, m = b >>> k ∧ k ≤ 1000 ∧ ρ = [some (on (b >>> k)), some (.lst ((pos b k).map on)), some (on k)]) b (b + 1) [some (on b), some (.lst []), some (on 0)] (by omega) ?_ ?_ ⟨0, rfl, by omega, rfl⟩
  · obtain ⟨ρ', e, k, h0, hk, rfl⟩ := loop
    have e2 : (pos b k) = bl b := (bl_eq (shr_zero h0.symm)).symm
    rw [e2, on_lst] at e
    exact fn_rt (seq_nx (set_ok rfl) (seq_nx (set_ok rfl) (seq_nx e (ret_ok (tuple_own rfl))))) rfl
  · rintro m ρ ⟨k, hm, hk, rfl⟩
    have hne : b >>> k ≠ 0 := by omega
    have hk2 := shr_ne hb hne
    have h1 := oGt_n (b >>> k) 0
    rw [show decide (0 < b >>> k) = true from decide_eq_true (by omega)] at h1
    have h3 := oEq_n (b >>> k % 2) 1
    rw [shr_mod] at h3
    have h4 := oDiv_n (b >>> k) 2 (by omega) (by omega)
    rw [shr_div] at h4
    have hl : (pos b k).length < 16777216 := by have := pos_length b k; omega
    refine ⟨[some (on (b >>> k)), some (.lst ((pos b k).map on)), some (on k)], [some (on (b >>> (k + 1))), some (.lst ((pos b (k + 1)).map on)), some (on (k + 1))], tst (op2 (var_d rfl) rfl h1), .inl ?_, b >>> (k + 1), ?_, k + 1, rfl, by omega, rfl⟩
    · have ht : mTst asB (mOp oEq (mOp oMod (mCallB fInt (mCons (mVar 0) mNil)) (mC (.int 2))) (mC (.int 1))) [some (on (b >>> k)), some (.lst ((pos b k).map on)), some (on k)] = .ok (b.testBit k) [some (on (b >>> k)), some (.lst ((pos b k).map on)), some (on k)] :=
        tst (op2 (op2 (int_n (var_d rfl)) rfl (oMod_n _ 2 (by omega))) rfl h3)
      rw [pos_succ]
      cases hb' : b.testBit k with
      | true =>
        rw [hb'] at ht
        rw [if_pos rfl, List.map_append]
        exact seq_nx (if_t ht (expr_ok (append_ok rfl rfl (var_d rfl) (by rw [List.length_map]; exact hl)))) (seq_nx (set_ok (op2 (var_d rfl) rfl h4)) (set_ok (op2 (var_d rfl) rfl (oAdd_n k 1))))
      | false =>
        rw [hb'] at ht
        rw [if_neg Bool.false_ne_true, List.append_nil]
        exact seq_nx (if_f ht rfl) (seq_nx (set_ok (op2 (var_d rfl) rfl h4)) (set_ok (op2 (var_d rfl) rfl (oAdd_n k 1))))
    · rw [← shr_one, ← hm, Nat.shiftRight_eq_div_pow]
      omega
  · rintro ρ ⟨k, hm, hk, rfl⟩
    have h1 := oGt_n (b >>> k) 0
    rw [show decide (0 < b >>> k) = false from decide_eq_false (by omega)] at h1
    exact ⟨[some (on (b >>> k)), some (.lst ((pos b k).map on)), some (on k)], tst (op2 (var_d rfl) rfl h1), k, hm, hk, rfl⟩
end K50
end
section
set_option Elab.async false
set_option linter.all false
set_option maxRecDepth 100000
set_option autoImplicit false
namespace K50
open PySem FL
/-! ### what is drawn -/
abbrev dst (s : List Int) (i v z : Nat) : O := ol [.list (ofInts s), dn i, dn v, dn z]
/-- a drawer -/
def Dr (o : O) : Prop := ∃ s i v z, o = dst s i v z ∧ z < 2147483647
theorem take_spec {o : O} (hd : Dr o) {many : Nat} (h1 : 0 < many) (h2 : many < 1073741824) : ∃ r o', f_law_take [o, on many] = .ok (on r) [o'] ∧ r < many ∧ Dr o' := by
  obtain ⟨s, i, v, z, rfl, hz⟩ := hd
  -- the digit of what is left
  have digit : ∀ (i w z : Nat) (x2 x3 : Option O), 0 < w → mSeq (mIfS (mTst asB (mOp oGt (mOp oIx (mVar 0) (mC (.int 2))) (mC (.int 0))))
      (mSeq (mSet 3 (mOp oMod (mCallB fInt (mCons (mOp oIx (mVar 0) (mC (.int 2))) mNil)) (mVar 1)))
      (mSeq (mSetIx 0 (mOp oDiv (mCallB fInt (mCons (mOp oIx (mVar 0) (mC (.int 2))) mNil)) (mVar 1)) (mC (.int 2)))
      (mRet (mVar 3))))
      mSkip)
      (mSeq (mSetIx 0 (mOp oMod (mCallB fInt (mCons (mOp oAdd (mOp oMulI (mOp oIx (mVar 0) (mC (.int 3))) (mC (.int 69621))) (mC (.int 7))) mNil)) (mC (.int 2147483647))) (mC (.int 3)))
      (mRet (mOp oMod (mCallB fInt (mCons (mOp oDiv (mOp oIx (mVar 0) (mC (.int 3))) (mC (.int 5))) mNil)) (mVar 1)))) [some (dst s i w z), some (on many), x2, x3] = .rt (on (w % many)) [some (dst s i (w / many) z), some (on many), x2, some (on (w % many))] := by
    intro i w z x2 x3 hw
    have t := oGt_n w 0
    rw [show decide (0 < w) = true from decide_eq_true hw] at t
    exact seq_rt (if_t (tst (op2 (own_ix (k := 2) rfl rfl rfl) rfl t)) (seq_nx (set_ok (op2 (int_n (own_ix (k := 2) rfl rfl rfl)) (var_d rfl) (oMod_n w many h1))) (seq_nx (setIxD (k := 2) (op2 (int_n (own_ix (k := 2) rfl rfl rfl)) (var_d rfl) (oDiv_n w many h1 h2)) rfl rfl (by simp)) (ret_ok (var_d rfl)))))
  by_cases hA : v = 0 ∧ i < s.length
  · obtain ⟨rfl, hi⟩ := hA
    have t0 := oEq_n 0 0
    have t1 := oLt_n i s.length
    rw [show decide (i < s.length) = true from decide_eq_true hi] at t1
    have lenE : mCallB fLen (mCons (mOp oIx (mVar 0) (mC (.int 0))) mNil) [some (dst s i 0 z), some (on many), none, none] = .ok (.o (on s.length)) [some (dst s i 0 z), some (on many), none, none] := by
      have := len_l (m := mOp oIx (mVar 0) (mC (.int 0))) (own_ix (k := 0) (ρ := [some (dst s i 0 z), some (on many), none, none]) rfl rfl rfl)
      rwa [ofInts_length] at this
    have tst1 : mAndT (mTst asB (mOp oEq (mOp oIx (mVar 0) (mC (.int 2))) (mC (.int 0)))) (mTst asB (mOp oLt (mOp oIx (mVar 0) (mC (.int 1))) (mCallB fLen (mCons (mOp oIx (mVar 0) (mC (.int 0))) mNil)))) [some (dst s i 0 z), some (on many), none, none] = .ok true [some (dst s i 0 z), some (on many), none, none] :=
      and_tt (tst (op2 (own_ix (k := 2) rfl rfl rfl) rfl t0)) (tst (op2 (own_ix (k := 1) rfl rfl rfl) lenE t1))
    have sA := setIxD (j := 0) (k := 2) (mi := mC (.int 2)) (ρ := [some (dst s i 0 z), some (on many), none, none]) (abs_i (op2 (f := oIx) (own_ix (j := 0) (k := 0) (m := mC (.int 0)) rfl rfl rfl) (own_ix (j := 0) (k := 1) (m := mC (.int 1)) rfl rfl rfl) (by rw [oIx_l]; exact ofInts_get hi))) rfl rfl (by simp)
    have sB : mSetIx 0 (mOp oAdd (mOp oIx (mVar 0) (mC (.int 1))) (mC (.int 1))) (mC (.int 1)) [some (dst s i s[i].natAbs z), some (on many), none, none] = .nx [some (dst s (i + 1) s[i].natAbs z), some (on many), none, none] :=
      setIxD (k := 1) (xs := [.list (ofInts s), dn i, dn s[i].natAbs, dn z]) (op2 (own_ix (k := 1) rfl rfl rfl) rfl (oAdd_n i 1)) rfl rfl (by simp)
    have pw : mOp oPow (mC (.int 10)) (mC (.int 18)) [some (dst s (i + 1) s[i].natAbs z), some (on many), none, none] = .ok (.o (on 1000000000000000000)) [some (dst s (i + 1) s[i].natAbs z), some (on many), none, none] := op2 rfl rfl (by rfl)
    have t2 := oLt_n s[i].natAbs 1000000000000000000
    by_cases hw : s[i].natAbs < 1000000000000000000
    · rw [show decide (s[i].natAbs < 1000000000000000000) = true from decide_eq_true hw] at t2
      refine ⟨s[i].natAbs % many, dst s (i + 1) 0 z, ?_, Nat.mod_lt _ h1, s, i + 1, 0, z, rfl, hz⟩
      exact fn_rt (seq_rt (if_t tst1 (seq_nx sA (seq_nx sB (if_t (tst (op2 (own_ix (k := 2) rfl rfl rfl) pw t2)) (seq_nx (set_ok (int_n (own_ix (k := 2) rfl rfl rfl))) (seq_nx (setIxD (k := 2) (x := dn 0) rfl rfl rfl (by simp)) (ret_ok (op2 (var_d rfl) (var_d rfl) (oMod_n _ many h1)))))))))) rfl
    · rw [show decide (s[i].natAbs < 1000000000000000000) = false from decide_eq_false hw] at t2
      refine ⟨s[i].natAbs % many, dst s (i + 1) (s[i].natAbs / many) z, ?_, Nat.mod_lt _ h1, s, i + 1, _, z, rfl, hz⟩
      exact fn_rt (seq_nx (if_t tst1 (seq_nx sA (seq_nx sB (if_f (tst (op2 (own_ix (k := 2) rfl rfl rfl) pw t2)) rfl)))) (digit (i + 1) s[i].natAbs z none none (by omega))) rfl
  · have tst1 : mAndT (mTst asB (mOp oEq (mOp oIx (mVar 0) (mC (.int 2))) (mC (.int 0)))) (mTst asB (mOp oLt (mOp oIx (mVar 0) (mC (.int 1))) (mCallB fLen (mCons (mOp oIx (mVar 0) (mC (.int 0))) mNil)))) [some (dst s i v z), some (on many), none, none] = .ok false [some (dst s i v z), some (on many), none, none] := by
      have t0 := oEq_n v 0
      by_cases hv : v = 0
      · rw [show decide (v = 0) = true from decide_eq_true hv] at t0
        have t1 := oLt_n i s.length
        rw [show decide (i < s.length) = false from decide_eq_false (fun q => hA ⟨hv, q⟩)] at t1
        have lenE : mCallB fLen (mCons (mOp oIx (mVar 0) (mC (.int 0))) mNil) [some (dst s i v z), some (on many), none, none] = .ok (.o (on s.length)) [some (dst s i v z), some (on many), none, none] := by
          have := len_l (m := mOp oIx (mVar 0) (mC (.int 0))) (own_ix (k := 0) (ρ := [some (dst s i v z), some (on many), none, none]) rfl rfl rfl)
          rwa [ofInts_length] at this
        exact and_tt (tst (op2 (own_ix (k := 2) rfl rfl rfl) rfl t0)) (tst (op2 (own_ix (k := 1) rfl rfl rfl) lenE t1))
      · rw [show decide (v = 0) = false from decide_eq_false hv] at t0
        exact and_ff (tst (op2 (own_ix (k := 2) rfl rfl rfl) rfl t0))
    by_cases hv : 0 < v
    · exact ⟨v % many, dst s i (v / many) z, fn_rt (seq_nx (if_f tst1 rfl) (digit i v z none none hv)) rfl, Nat.mod_lt _ h1, s, i, _, z, rfl, hz⟩
    · have t := oGt_n v 0
      rw [show decide (0 < v) = false from decide_eq_false hv] at t
      refine ⟨(z * 69621 + 7) % 2147483647 / 5 % many, dst s i v ((z * 69621 + 7) % 2147483647), ?_, Nat.mod_lt _ h1, s, i, v, _, rfl, Nat.mod_lt _ (by omega)⟩
      have e1 := oMul_n z 69621 (.inr (by omega))
      exact fn_rt (seq_nx (if_f tst1 rfl) (seq_nx (if_f (tst (op2 (own_ix (k := 2) rfl rfl rfl) rfl t)) rfl) (seq_nx (setIxD (k := 3) (op2 (int_n (op2 (op2 (own_ix (k := 3) rfl rfl rfl) rfl e1) rfl (oAdd_n _ 7))) rfl (oMod_n _ 2147483647 (by omega))) rfl rfl (by simp)) (ret_ok (op2 (int_n (op2 (own_ix (k := 3) rfl rfl rfl) rfl (oDiv_n _ 5 (by omega) (by omega)))) (var_d rfl) (oMod_n _ many h1)))))) rfl
end K50
end
section
set_option Elab.async false
set_option linter.all false
set_option maxRecDepth 100000
set_option autoImplicit false
namespace FL
open PySem
/-- a comprehension with side effects -/
theorem lcL_rel {j : Nat} {c : Mb} {e : M} {P : Nat → List O → Env → Prop} : ∀ (items : List PyData) (k : Nat) (acc : List O) (ρ : Env),
    (∀ i d acc ρ, items[i]? = some d → P (k + i) acc ρ → ∃ b ρ2, c (ρ.set j (some (.d d))) = .ok b ρ2 ∧ (b = true → ∃ o ρ3, e ρ2 = .ok (.o o) ρ3 ∧ dataSlots ρ3 [j] = true ∧ P (k + i + 1) (acc ++ [o]) (wipeE ρ3 [j])) ∧ (b = false → dataSlots ρ2 [j] = true ∧ P (k + i + 1) acc (wipeE ρ2 [j]))) →
    P k acc ρ → ∃ os ρ', lcL (.n j) [j] c e items ρ = some (os, ρ') ∧ P (k + items.length) (acc ++ os) ρ'
  | [], k, acc, ρ, _, h0 => ⟨[], ρ, rfl, by rw [List.append_nil]; exact h0⟩
  | d :: ds, k, acc, ρ, h, h0 => by
    obtain ⟨b, ρ2, e1, e2, e3⟩ := h 0 d acc ρ rfl h0
    have hs : ∀ i d' acc ρ, ds[i]? = some d' → P (k + 1 + i) acc ρ → ∃ b ρ2, c (ρ.set j (some (.d d'))) = .ok b ρ2 ∧ (b = true → ∃ o ρ3, e ρ2 = .ok (.o o) ρ3 ∧ dataSlots ρ3 [j] = true ∧ P (k + 1 + i + 1) (acc ++ [o]) (wipeE ρ3 [j])) ∧ (b = false → dataSlots ρ2 [j] = true ∧ P (k + 1 + i + 1) acc (wipeE ρ2 [j])) := fun i d' acc ρ hd hp => by
      have := h (i + 1) d' acc ρ (by simpa using hd) (by rw [show k + (i + 1) = k + 1 + i by omega]; exact hp)
      rw [show k + (i + 1) + 1 = k + 1 + i + 1 by omega] at this
      exact this
    cases b with
    | true =>
      obtain ⟨o, ρ3, e4, e5, p⟩ := e2 rfl
      obtain ⟨os, ρ', e6, p6⟩ := lcL_rel ds (k + 1) (acc ++ [o]) (wipeE ρ3 [j]) hs p
      refine ⟨o :: os, ρ', ?_, by rw [List.length_cons, show k + (ds.length + 1) = k + 1 + ds.length by omega]; rw [List.append_assoc] at p6; exact p6⟩
      unfold lcL
      simp only [Tg.put, e1, if_true, e4, Rv.own, e5, e6]
    | false =>
      obtain ⟨e5, p⟩ := e3 rfl
      obtain ⟨os, ρ', e6, p6⟩ := lcL_rel ds (k + 1) acc (wipeE ρ2 [j]) hs p
      refine ⟨os, ρ', ?_, by rw [List.length_cons, show k + (ds.length + 1) = k + 1 + ds.length by omega]; exact p6⟩
      unfold lcL
      simp only [Tg.put, e1, Bool.false_eq_true, if_false, e5, e6, if_true]
theorem lc_inv {mi : Mi} {j : Nat} {c : Mb} {e : M} {ρ0 ρ : Env} {items : List PyData} (P : Nat → List O → Env → Prop) (hm : mi ρ0 = .ok items ρ) (hj : ρ[j]? = some none)
    (h : ∀ i d acc ρ, items[i]? = some d → P i acc ρ → ∃ b ρ2, c (ρ.set j (some (.d d))) = .ok b ρ2 ∧ (b = true → ∃ o ρ3, e ρ2 = .ok (.o o) ρ3 ∧ dataSlots ρ3 [j] = true ∧ P (i + 1) (acc ++ [o]) (wipeE ρ3 [j])) ∧ (b = false → dataSlots ρ2 [j] = true ∧ P (i + 1) acc (wipeE ρ2 [j])))
    (h0 : P 0 [] ρ) (hl : ∀ os ρ', P items.length os ρ' → os.length ≤ 16777216) : ∃ os ρ', mLc mi (.n j) [j] c e ρ0 = .ok (.o (.lst os)) ρ' ∧ P items.length os ρ' := by
  obtain ⟨os, ρ', e1, p⟩ := lcL_rel (j := j) (c := c) (e := e) (P := P) items 0 [] ρ (fun i d acc ρ hd hp => by rw [Nat.zero_add] at hp ⊢; exact h i d acc ρ hd hp) h0
  rw [Nat.zero_add, List.nil_append] at p
  refine ⟨os, ρ', ?_, p⟩
  simp only [mLc, hm, R.bind, dataSlots_none hj, if_true, wipe_none hj, e1, okLen_n os (hl os ρ' p)]
/-- a call that changes what stands in the slot j -/
theorem callD {j : Nat} {m : M} {f : Fn} {ρ : Env} {o o' r y : O} (h : ρ[j]? = some (some o)) (hv : mVar j ρ = .ok (.s j) ρ) (e : m ρ = .ok (.o y) ρ) (hf : f [o, y] = .ok r [o']) : mCall [0] 2 f (mCons (mVar j) (mCons m mNil)) ρ = .ok (.o r) (ρ.set j (some o')) := by
  unfold mCall mCons mNil
  simp only [R.bind, hv, e]
  simp [takeA, h, hf, backA, List.set_set]
theorem var_tf {i : Nat} {ρ : Env} {xs : List PyData} (h : ρ[i]? = some (some (.tf xs))) : mVar i ρ = .ok (.o (.tf xs)) ρ := by
  unfold mVar
  rw [h]
theorem ix_tf {i : Nat} {m : M} {ρ : Env} {xs : List PyData} {k : Nat} {x : PyData} (h : ρ[i]? = some (some (.tf xs))) (e : m ρ = .ok (.o (on k)) ρ) (hx : xs[k]? = some x) : mOp oIx (mVar i) m ρ = .ok (.o (.d x)) ρ := by
  unfold mOp
  simp only [R.bind, var_tf h, e, view2, Rv.view, O.view, oIx_t, hx, optR]
theorem tupF_ok {m : M} {ρ ρ' : Env} {xs : List PyData} (e : m ρ = .ok (.o (.lst (xs.map .d))) ρ') : mTupF m ρ = .ok (.o (.tf xs)) ρ' := by
  unfold mTupF
  simp only [R.bind, e, Rv.view, O.view, allD_map]
def idxN (z : Nat) : List Nat → Nat
  | [] => 0
  | y :: ys => if y = z then 0 else idxN z ys + 1
theorem idxN_int (z : Nat) : ∀ {ys : List Nat}, z ∈ ys → L2.ixI (z : Int) (ys.map fun k : Nat => (k : Int)) = some (idxN z ys)
  | y :: ys, h => by
    rw [List.map_cons]
    unfold L2.ixI idxN
    by_cases e : y = z
    · rw [if_pos e, if_pos (by omega)]
    · rw [if_neg e, if_neg (by omega)]
      rw [idxN_int z (ys := ys) (by
        rcases List.mem_cons.mp h with q | q
        · exact absurd q.symm e
        · exact q)]
theorem idxN_get (z : Nat) : ∀ {ys : List Nat}, z ∈ ys → ∃ h : idxN z ys < ys.length, ys[idxN z ys] = z
  | y :: ys, h => by
    unfold idxN
    by_cases e : y = z
    · simp only [e, if_true]
      exact ⟨by simp, by simp⟩
    · have m : z ∈ ys := by
        rcases List.mem_cons.mp h with q | q
        · exact absurd q.symm e
        · exact q
      obtain ⟨h1, h2⟩ := idxN_get z m
      simp only [e, if_false]
      exact ⟨by simp; omega, by simpa using h2⟩
theorem idx_ok {i : Nat} {m : M} {ρ : Env} {xs : List Nat} {z : Nat} (h : ρ[i]? = some (some (.tf (xs.map dn)))) (e : m ρ = .ok (.o (on z)) ρ) (hz : z ∈ xs) : mIdx i m ρ = .ok (.o (on (idxN z xs))) ρ := by
  unfold mIdx
  simp only [h, R.bind, e, intsOf_n, Rv.view, O.view, idxN_int z hz]
theorem popAt_ok {j k : Nat} {m : M} {ρ ρ1 : Env} {os : List O} {o : O} (h0 : isL ρ j = true) (h1 : ρ1[j]? = some (some (.lst os))) (e : m ρ = .ok (.o (on k)) ρ1) (hk : os[k]? = some o) (hl : k < 1000000) : mPopAt j m ρ = .ok (.o o) (ρ1.set j (some (.lst (os.eraseIdx k)))) := by
  have hi : intR ρ1 (.o (on k)) = some (k : Int) := rfl
  unfold mPopAt
  rw [h0, if_pos rfl]
  simp only [R.bind, e, hi, h1]
  rw [if_pos (by rw [Bool.and_eq_true, decide_eq_true_eq, decide_eq_true_eq]; omega), Int.toNat_natCast, hk]
theorem lrg_ok {m : M} {ρ ρ' : Env} {n : Nat} (e : m ρ = .ok (.o (on n)) ρ') (h : n ≤ 1000000) : mLRg m ρ = .ok (.o (.lst ((List.range n).map on))) ρ' := by
  have h1 : okRg 0 (n : Int) = true := by
    unfold okRg
    rw [Bool.and_eq_true, Bool.and_eq_true]
    exact ⟨rfl, show small (n : Int) = true from Nat.ble_eq_true_of_le (by omega), decide_eq_true (by omega)⟩
  have h2 : rgO 0 (n : Int) = (List.range n).map dn := by
    unfold rgO
    rw [show ((n : Int) - 0).toNat = n by omega, rangeL_n]
  unfold mLRg
  generalize okRg = okk at h1 ⊢
  simp only [R.bind, e, Rv.view, O.view, h1, h2, if_true]
  rw [on_lst]
end FL
namespace FL
open PySem
theorem ms_cons {m : M} {ms : Ms} {ρ ρ1 ρ2 : FL.Env} {x : Rv} {xs : List Rv} (e : m ρ = .ok x ρ1) (e2 : ms ρ1 = .ok xs ρ2) : mCons m ms ρ = .ok (x :: xs) ρ2 := by
  unfold mCons
  simp only [R.bind, e, e2]
theorem lstO_ok {ms : Ms} {ρ ρ' : FL.Env} {xs : List Rv} {ys : List O} (e : ms ρ = .ok xs ρ') (h : ownRs xs = some ys) (hl : okLen ys = true) : mLstO ms ρ = .ok (.o (.lst ys)) ρ' := by
  unfold mLstO
  simp only [R.bind, e, h, hl, if_true]
theorem lstD_ok {ms : Ms} {ρ ρ' : FL.Env} {xs : List Rv} {ys : List PyData} (e : ms ρ = .ok xs ρ') (h : datRs xs = some ys) (hl : okLen ys = true) : mLstD ms ρ = .ok (.o (.d (.list ys))) ρ' := by
  unfold mLstD
  simp only [R.bind, e, h, hl, if_true]
theorem tup_ok {ms : Ms} {ρ ρ' : FL.Env} {xs : List Rv} {ys : List PyData} (e : ms ρ = .ok xs ρ') (h : datRs xs = some ys) (hl : okLen ys = true) : mTup ms ρ = .ok (.o (.d (.tuple ys))) ρ' := by
  unfold mTup
  simp only [R.bind, e, h, hl, if_true]
end FL
namespace FL
open PySem
theorem erase_map {α β : Type} (f : α → β) : ∀ (l : List α) (k : Nat), (l.map f).eraseIdx k = (l.eraseIdx k).map f
  | [], _ => rfl
  | _ :: _, 0 => rfl
  | x :: l, k + 1 => by
    rw [List.map_cons, List.eraseIdx_cons_succ, List.eraseIdx_cons_succ, List.map_cons, erase_map f l k]
theorem erase_perm {α : Type} : ∀ (l : List α) (k : Nat) (h : k < l.length), (l[k] :: l.eraseIdx k).Perm l
  | _ :: _, 0, _ => List.Perm.refl _
  | x :: l, k + 1, h => by
    rw [List.eraseIdx_cons_succ]
    exact (List.Perm.swap x _ _).trans ((erase_perm l k (by simpa using h)).cons x)
end FL
namespace FL
open PySem
def valO (F : Nat → O) : PyData → Option O
  | .int k => some (F k.toNat)
  | _ => none
theorem fm_valO (F : Nat → O) : ∀ l : List Nat, (l.map dn).filterMap (valO F) = l.map F
  | [] => rfl
  | i :: l => by
    rw [List.map_cons, List.map_cons, List.filterMap_cons, fm_valO F l]
    rfl
/-- what stood in the slot is forgotten -/
theorem wipe1 (ρ : FL.Env) (j : Nat) : wipeE (wipeE ρ [j]) [j] = wipeE ρ [j] := by
  show (ρ.set j none).set j none = ρ.set j none
  rw [List.set_set]
theorem lc_wipe {mi : Mi} {tg : Tg} {j : Nat} {c : Mb} {e : M} {ρ : FL.Env} {items : List PyData} (h1 : mi ρ = .ok items ρ) (h2 : mi (ρ.set j none) = .ok items (ρ.set j none)) (hd : dataAt ρ j = true) (hj : j < ρ.length) : mLc mi tg [j] c e ρ = mLc mi tg [j] c e (ρ.set j none) := by
  have d1 : dataSlots ρ [j] = true := by unfold dataSlots; rw [List.all_cons, hd]; rfl
  have d2 : dataSlots (ρ.set j none) [j] = true := dataSlots_none (List.getElem?_set_self hj)
  have e1 : wipeE (ρ.set j none) [j] = wipeE ρ [j] := wipe1 ρ j
  simp only [mLc, h1, h2, R.bind, d1, d2, if_true, e1]
/-- a slot with nothing of one's own -/
def Dy (y : Option O) : Prop := y = none ∨ ∃ x, y = some (.d x)
theorem Dy.at {ρ : FL.Env} {j : Nat} {y : Option O} (h : Dy y) (e : ρ[j]? = some y) : dataAt ρ j = true := by
  unfold dataAt
  rcases h with rfl | ⟨x, rfl⟩ <;> rw [e]
theorem Dy.non : Dy none := .inl rfl
theorem Dy.on {k : Nat} : Dy (some (FL.on k)) := .inr ⟨_, rfl⟩
end FL
namespace FL
open PySem
theorem fz_ok {i : Nat} {ρ : FL.Env} {xs : List PyData} (h : ρ[i]? = some (some (ol xs))) : mFz i ρ = .ok (.o (.d (.list xs))) (ρ.set i (some (.d (.list xs)))) := by
  unfold mFz
  have e : O.dat (ol xs) = some (.list xs) := by rw [ol, O.dat, datL_map]
  simp only [h, e]
theorem extend_ok {j : Nat} {m : M} {ρ ρ1 : FL.Env} {xs ys : List PyData} (h0 : isL ρ j = true) (h1 : ρ1[j]? = some (some (ol xs))) (e : m ρ = .ok (.o (.lst (ys.map .d))) ρ1) (hl : xs.length + ys.length ≤ 16777216) : mExtend j m ρ = .ok (.o (.d .none)) (ρ1.set j (some (ol (xs ++ ys)))) := by
  unfold mExtend
  rw [h0, if_pos rfl]
  simp only [R.bind, e, h1]
  rw [if_pos (by rw [decide_eq_true_eq, List.length_map, List.length_map]; exact hl)]
  rw [ol, List.map_append]
theorem k2_n (a b : Nat) (ha : a < 1000000000) (hb : b < 1000000000) : k2 [dn a, dn b] = some ((List.range (b - a)).map fun i => dn (a + i)) := by
  show (if (small (a : Int) && small (b : Int)) = true then some (rangeL (a : Int) ((b : Int) - (a : Int)).toNat) else none) = _
  rw [if_pos (by
    rw [Bool.and_eq_true]
    exact ⟨show small (a : Int) = true from Nat.ble_eq_true_of_le (by omega), show small (b : Int) = true from Nat.ble_eq_true_of_le (by omega)⟩), show ((b : Int) - (a : Int)).toNat = b - a by omega, rangeL_from]
theorem walk_gen2 {kk : List PyData → Option (List PyData)} {m m2 : M} {ρ ρ' ρ2 : FL.Env} {x y : PyData} {zs : List PyData} (e : m ρ = .ok (.o (.d x)) ρ') (e2 : m2 ρ' = .ok (.o (.d y)) ρ2) (hk : kk [x, y] = some zs) : mWalk kk (mCons m (mCons m2 mNil)) ρ = .ok zs ρ2 := by
  simp only [mWalk, mCons, mNil, e, e2, R.bind, datRs, Rv.datR, O.dat, hk]
theorem walk_gen3 {kk : List PyData → Option (List PyData)} {m m2 m3 : M} {ρ ρ' ρ2 ρ3 : FL.Env} {x y z : PyData} {zs : List PyData} (e : m ρ = .ok (.o (.d x)) ρ') (e2 : m2 ρ' = .ok (.o (.d y)) ρ2) (e3 : m3 ρ2 = .ok (.o (.d z)) ρ3) (hk : kk [x, y, z] = some zs) : mWalk kk (mCons m (mCons m2 (mCons m3 mNil))) ρ = .ok zs ρ3 := by
  simp only [mWalk, mCons, mNil, e, e2, e3, R.bind, datRs, Rv.datR, O.dat, hk]
end FL
namespace FL
open PySem
theorem ms_nil {ρ : FL.Env} : mNil ρ = .ok [] ρ := rfl
theorem callL_ok {f : List PyData → Option (List PyData)} {m : M} {ρ ρ' : FL.Env} {x : PyData} {zs : List PyData} (e : m ρ = .ok (.o (.d x)) ρ') (h : f [x] = some zs) : mCallL f (mCons m mNil) ρ = .ok (.o (.lst (zs.map .d))) ρ' := by
  unfold mCallL mCons mNil
  simp only [R.bind, e, viewRs, Rv.view, O.view, h]
end FL
namespace FL
open PySem
theorem cat_ok {ma mb : M} {ρ ρ1 ρ2 : FL.Env} {xs ys : List PyData} (e : ma ρ = .ok (.o (.lst (xs.map .d))) ρ1) (e2 : mb ρ1 = .ok (.o (.lst (ys.map .d))) ρ2) (hl : xs.length + ys.length ≤ 16777216) : mCat ma mb ρ = .ok (.o (.lst ((xs ++ ys).map .d))) ρ2 := by
  unfold mCat
  simp only [R.bind, e, e2, Rv.view, O.view, allD_map]
  rw [if_pos (decide_eq_true hl)]
end FL
namespace FL
open PySem
theorem boolsOf_map {α : Type} (p : α → Bool) : ∀ l : List α, boolsOf (l.map fun x => PyData.bool (p x)) = some (l.map p)
  | [] => rfl
  | x :: l => by
    rw [List.map_cons, List.map_cons]
    unfold boolsOf
    rw [boolsOf_map p l]
theorem all_ok {α : Type} {m : M} {ρ ρ' : FL.Env} (p : α → Bool) (l : List α) (e : m ρ = .ok (.o (.lst (l.map fun x => .d (.bool (p x))))) ρ') : mCallB fAll (mCons m mNil) ρ = .ok (.o (.d (.bool (l.all p)))) ρ' := by
  have e0 : (l.map fun x => O.d (.bool (p x))) = (l.map fun x => PyData.bool (p x)).map O.d := by rw [List.map_map]; rfl
  have e1 : (l.map p).all id = l.all p := by rw [List.all_map]; rfl
  unfold mCallB mCons mNil
  simp only [R.bind, e, viewRs, Rv.view, O.view, e0, allD_map, fAll, boolsOf_map, optR, e1]
theorem any_ok {α : Type} {m : M} {ρ ρ' : FL.Env} (p : α → Bool) (l : List α) (e : m ρ = .ok (.o (.lst (l.map fun x => .d (.bool (p x))))) ρ') : mCallB fAny (mCons m mNil) ρ = .ok (.o (.d (.bool (l.any p)))) ρ' := by
  have e0 : (l.map fun x => O.d (.bool (p x))) = (l.map fun x => PyData.bool (p x)).map O.d := by rw [List.map_map]; rfl
  have e1 : (l.map p).any id = l.any p := by rw [List.any_map]; rfl
  unfold mCallB mCons mNil
  simp only [R.bind, e, viewRs, Rv.view, O.view, e0, allD_map, fAny, boolsOf_map, optR, e1]
theorem len_tn {m : M} {ρ ρ' : FL.Env} {l : List Nat} (e : m ρ = .ok (.o (.d (tn l))) ρ') : mCallB fLen (mCons m mNil) ρ = .ok (.o (on l.length)) ρ' := by
  have := len_t e
  rwa [List.length_map] at this
theorem len_ln {m : M} {ρ ρ' : FL.Env} {l : List Nat} (e : m ρ = .ok (.o (.d (ln l))) ρ') : mCallB fLen (mCons m mNil) ρ = .ok (.o (on l.length)) ρ' := by
  have := len_l e
  rwa [List.length_map] at this
theorem map_dn {α : Type} (f : α → Nat) (l : List α) : (l.map fun x => O.d (dn (f x))) = ((l.map f).map dn).map O.d := by
  rw [List.map_map, List.map_map]
  rfl
end FL
namespace FL
open PySem
theorem sortU_own {i : Nat} {ρ : FL.Env} {xs : List Nat} (h : ρ[i]? = some (some (ol (xs.map dn)))) (h1 : xs.length < 4000) (h2 : (sortN xs).length < 64) : mCallL lSortU (mCons (mVar i) mNil) ρ = .ok (.o (.lst ((sortN xs).map on))) ρ := by
  unfold mCallL mCons mNil
  simp only [R.bind, own_var h, viewRs, Rv.view, h, O.view, allD_map, lSortU_n xs h1 h2]
  rw [← on_lst]
end FL
namespace FL
open PySem
theorem op_l {f : PyData → PyData → Option PyData} {ma mb : M} {ρ ρ1 ρ2 : FL.Env} {x z : PyData} {ys : List PyData} (e : ma ρ = .ok (.o (.d x)) ρ1) (e2 : mb ρ1 = .ok (.o (.lst (ys.map .d))) ρ2) (hf : f x (.list ys) = some z) : mOp f ma mb ρ = .ok (.o (.d z)) ρ2 := by
  unfold mOp
  simp only [R.bind, e, e2, view2, Rv.view, O.view, allD_map, hf, optR]
theorem op_s {f : PyData → PyData → Option PyData} {ma : M} {j : Nat} {ρ : FL.Env} {x z : PyData} {ys : List PyData} (e : ma ρ = .ok (.o (.d x)) ρ) (h : ρ[j]? = some (some (ol ys))) (hf : f x (.list ys) = some z) : mOp f ma (mVar j) ρ = .ok (.o (.d z)) ρ := by
  unfold mOp
  simp only [R.bind, e, own_var h, view2, Rv.view, h, O.view, allD_map, hf, optR]
theorem oAdd_l (xs ys : List PyData) (h : xs.length + ys.length ≤ 16777216) : oAdd (.list xs) (.list ys) = some (.list (xs ++ ys)) := if_pos h
theorem sorted_from : ∀ {l : List Nat} {a n : Nat}, l.Pairwise (· < ·) → a ≤ n → (∀ k ∈ l, a ≤ k ∧ k < n) → l.length + a ≤ n
  | [], a, n, _, h, _ => by simpa using h
  | x :: l, a, n, hp, h, hk => by
    obtain ⟨h1, h2⟩ := List.pairwise_cons.mp hp
    have hx := hk x List.mem_cons_self
    have := sorted_from (a := x + 1) h2 (by omega) fun k hm => ⟨h1 k hm, (hk k (List.mem_cons_of_mem _ hm)).2⟩
    rw [List.length_cons]
    omega
theorem sorted_len {l : List Nat} {n : Nat} (h : l.Pairwise (· < ·)) (hk : ∀ k ∈ l, k < n) : l.length ≤ n := by
  have := sorted_from (a := 0) h (Nat.zero_le n) fun k hm => ⟨Nat.zero_le k, hk k hm⟩
  omega
end FL
namespace FL
open PySem
theorem walkRg_ok {i n : Nat} {ρ : FL.Env} (h : ρ[i]? = some (some (.rg 0 (n : Int)))) (hn : n < 1000000000) : mWalkRg (mVar i) ρ = .ok ((List.range n).map dn) ρ := by
  have e : mVar i ρ = .ok (.o (.rg 0 (n : Int))) ρ := by
    unfold mVar
    rw [h]
  have s1 : small (n : Int) = true := show small (n : Int) = true from Nat.ble_eq_true_of_le (by omega)
  have s0 : small 0 = true := rfl
  unfold mWalkRg
  generalize small = sm at s1 s0 ⊢
  simp only [R.bind, e, s0, s1, Bool.and_self, if_true]
  rw [show ((n : Int) - 0).toNat = n by omega, rangeL_n]
theorem rg_ok {m : M} {ρ ρ' : FL.Env} {n : Nat} (e : m ρ = .ok (.o (on n)) ρ') : mRg m ρ = .ok (.o (.rg 0 (n : Int))) ρ' := by
  unfold mRg
  simp only [R.bind, e, Rv.view, O.view]
theorem lc_rows {mi : Mi} {ρ : FL.Env} {j : Nat} {T : List (List Nat)} (hm : mi ρ = .ok (T.map ln) ρ) (hj : ρ[j]? = some none) (hl : T.length ≤ 16777216) : mLc mi (.n j) [j] mYes (mCallB fTuple (mCons (mVar j) mNil)) ρ = .ok (.o (.lst ((T.map tn).map .d))) ρ := by
  have hlen : j < ρ.length := (List.getElem?_eq_some_iff.mp hj).1
  have h := lc_gen (c := mYes) (e := mCallB fTuple (mCons (mVar j) mNil)) hm hj (fun d => match d with | .list xs => some (.d (.tuple xs)) | _ => none) (fun d hd => by
    obtain ⟨r, hr, rfl⟩ := List.mem_map.mp hd
    refine ⟨true, rfl, fun _ => ⟨.d (tn r), rfl, ?_⟩, fun z => by cases z⟩
    have e : mVar j (ρ.set j (some (.d (ln r)))) = .ok (.o (.d (ln r))) (ρ.set j (some (.d (ln r)))) := var_d (List.getElem?_set_self hlen)
    unfold mCallB mCons mNil
    simp only [R.bind, e, viewRs, Rv.view, O.view, fTuple, optR]) (by rw [List.length_map]; exact hl)
  rw [h]
  clear h hm hl
  congr 3
  induction T with
  | nil => rfl
  | cons r T ih =>
    rw [List.map_cons, List.map_cons, List.map_cons, List.filterMap_cons, ih]
theorem oIsN_n (k : Nat) : oIsN (dn k) .none = some (.bool false) := rfl
end FL
namespace FL
open PySem
theorem not_v {m : M} {ρ ρ' : FL.Env} {b : Bool} (e : m ρ = .ok (.o (.d (.bool b))) ρ') : mNotV m ρ = .ok (.o (.d (.bool (!b)))) ρ' := by
  unfold mNotV
  simp only [R.bind, e]
theorem and_vt {a b : M} {ρ ρ' : FL.Env} {r : R Rv} (e : a ρ = .ok (.o (.d (.bool true))) ρ') (e2 : b ρ' = r) : mAndV a b ρ = r := by
  unfold mAndV
  simp only [R.bind, e, if_true, e2]
theorem and_vf {a b : M} {ρ ρ' : FL.Env} (e : a ρ = .ok (.o (.d (.bool false))) ρ') : mAndV a b ρ = .ok (.o (.d (.bool false))) ρ' := by
  unfold mAndV
  simp only [R.bind, e]
  rfl
theorem or_vf {a b : M} {ρ ρ' : FL.Env} {r : R Rv} (e : a ρ = .ok (.o (.d (.bool false))) ρ') (e2 : b ρ' = r) : mOrV a b ρ = r := by
  unfold mOrV
  simp only [R.bind, e, Bool.false_eq_true, if_false, e2]
theorem isI_ok {T : String} {m : M} {ρ ρ' : FL.Env} {y : PyData} {b : Bool} (e : m ρ = .ok (.o (.d y)) ρ') (h : isD y T = some b) : mIsI T m ρ = .ok (.o (.d (.bool b))) ρ' := by
  unfold mIsI
  simp only [R.bind, e, h]
theorem chain_t {f f' : PyData → PyData → Option PyData} {ma mb mc : M} {ρ ρ1 ρ2 ρ3 : FL.Env} {x y z w : PyData} (e : ma ρ = .ok (.o (.d x)) ρ1) (e2 : mb ρ1 = .ok (.o (.d y)) ρ2) (h : f x y = some (.bool true)) (e3 : mc ρ2 = .ok (.o (.d z)) ρ3) (h2 : f' y z = some w) : mChain f f' ma mb mc ρ = .ok (.o (.d w)) ρ3 := by
  unfold mChain
  simp only [R.bind, e, e2, view2, Rv.view, O.view, h, if_true, e3, h2, optR]
/-- two clauses, without side effects -/
theorem lcI_pure {k : Nat} {e : M} {ρ : FL.Env} (hk : ρ[k]? = some none) (F : Nat → PyData) : ∀ (l : List Nat), (∀ i ∈ l, e (ρ.set k (some (on i))) = .ok (.o (.d (F i))) (ρ.set k (some (on i)))) → lcI (.n k) [k] mYes e (l.map dn) ρ = some (l.map F, ρ)
  | [], _ => rfl
  | i :: l, h => by
    have hl : k < ρ.length := (List.getElem?_eq_some_iff.mp hk).1
    have ih := lcI_pure hk F l fun d m => h d (List.mem_cons_of_mem _ m)
    have e1 := h i List.mem_cons_self
    have ds1 : dataSlots (ρ.set k (some (on i))) [k] = true := by
      unfold dataSlots
      rw [List.all_cons]
      unfold dataAt
      rw [List.getElem?_set_self hl]
      rfl
    have ew : wipeE (ρ.set k (some (on i))) [k] = ρ := by
      show (ρ.set k (some (on i))).set k none = ρ
      rw [List.set_set]
      exact wipe_none hk
    rw [List.map_cons, List.map_cons]
    unfold lcI
    simp only [Tg.put, if_true, e1, ds1, ew, ih]
theorem lc2_map {mi mi1 : Mi} {j k : Nat} {e : M} {ρ : FL.Env} {l : List Nat} (its : Nat → List Nat) (F : Nat → Nat → PyData) (hm : mi ρ = .ok (l.map dn) ρ) (hj : ρ[j]? = some none) (hk : ρ[k]? = some none) (hjk : j ≠ k)
    (hm1 : ∀ x ∈ l, mi1 (ρ.set j (some (on x))) = .ok ((its x).map dn) (ρ.set j (some (on x))))
    (h : ∀ x ∈ l, ∀ y ∈ its x, e ((ρ.set j (some (on x))).set k (some (on y))) = .ok (.o (.d (F x y))) ((ρ.set j (some (on x))).set k (some (on y)))) (hl : (l.flatMap fun x => (its x).map fun y => F x y).length ≤ 16777216) :
    mLc2 mi (.n j) mYes mi1 (.n k) mYes e [j, k] [k] ρ = .ok (.o (.lst ((l.flatMap fun x => (its x).map fun y => F x y).map .d))) ρ := by
  have lj : j < ρ.length := (List.getElem?_eq_some_iff.mp hj).1
  have wp : wipeE ρ [j, k] = ρ := by
    show (ρ.set k none).set j none = ρ
    have := wipe_none hk
    have e1 : ρ.set k none = ρ := this
    rw [e1]
    exact wipe_none hj
  have d0 : dataSlots ρ [j, k] = true := by
    unfold dataSlots
    rw [List.all_cons, List.all_cons]
    unfold dataAt
    rw [hj, hk]
    rfl
  have go : ∀ (l' : List Nat), (∀ x ∈ l', x ∈ l) → lcO (.n j) [j, k] mYes mi1 (.n k) [k] mYes e (l'.map dn) ρ = some (l'.flatMap fun x => (its x).map fun y => F x y, ρ) := by
    intro l'
    induction l' with
    | nil => intro _; rfl
    | cons x l' ih =>
      intro hx
      have xl := hx x List.mem_cons_self
      have hk2 : (ρ.set j (some (on x)))[k]? = some none := by rw [List.getElem?_set_ne hjk]; exact hk
      have i1 := lcI_pure (k := k) (e := e) (ρ := ρ.set j (some (on x))) hk2 (F x) (its x) (h x xl)
      have d1 : dataSlots (ρ.set j (some (on x))) [k] = true := dataSlots_none hk2
      have w1 : wipeE (ρ.set j (some (on x))) [k] = ρ.set j (some (on x)) := wipe_none hk2
      have d2 : dataSlots (ρ.set j (some (on x))) [j, k] = true := by
        unfold dataSlots
        rw [List.all_cons, List.all_cons]
        unfold dataAt
        rw [List.getElem?_set_self lj, hk2]
        rfl
      have w2 : wipeE (ρ.set j (some (on x))) [j, k] = ρ := by
        show ((ρ.set j (some (on x))).set k none).set j none = ρ
        have e1 : (ρ.set j (some (on x))).set k none = ρ.set j (some (on x)) := w1
        rw [e1, List.set_set]
        exact wipe_none hj
      rw [List.map_cons]
      unfold lcO
      simp only [Tg.put, if_true, hm1 x xl, d1, w1, i1, d2, w2, ih fun y hy => hx y (List.mem_cons_of_mem _ hy), List.flatMap_cons]
  have g := go l fun x hx => hx
  unfold mLc2
  simp only [hm, R.bind, d0, if_true, wp, g]
  rw [if_pos (decide_eq_true hl)]
end FL
end
section
set_option Elab.async false
set_option linter.all false
set_option maxRecDepth 100000
set_option autoImplicit false
namespace K50
open PySem FL
theorem Dr.own {o : O} (h : Dr o) : ∃ xs, o = ol xs := by
  obtain ⟨s, i, v, z, rfl, _⟩ := h
  exact ⟨_, rfl⟩
/-- a draw, the drawer in the slot j -/
theorem take_at {o : O} (hd : Dr o) {j many : Nat} {m : M} {ρ : FL.Env} (h : ρ[j]? = some (some o)) (e : m ρ = .ok (.o (on many)) ρ) (h1 : 0 < many) (h2 : many < 1073741824) :
    ∃ r o', mCall [0] 2 f_law_take (mCons (mVar j) (mCons m mNil)) ρ = .ok (.o (on r)) (ρ.set j (some o')) ∧ r < many ∧ Dr o' := by
  obtain ⟨r, o', e1, hr, hd'⟩ := take_spec hd h1 h2
  obtain ⟨xs, rfl⟩ := hd.own
  exact ⟨r, o', callD h (own_var h) e e1, hr, hd'⟩
theorem begin_spec (ns : List Int) (hl : ns.length ≤ 63) : ∃ o, f_law_begin [.d (.list (ofInts ns))] = .ok o [] ∧ Dr o := by
  have loop := forL_inv (tg := .n 2) (b := mSet 1 (mOp oMod (mOp oAdd (mOp oAdd (mOp oMulI (mVar 1) (mC (.int 48271))) (mOp oMod (mCallB fInt (mCons (mVar 2) mNil)) (mC (.int 2147483629)))) (mC (.int 11))) (mC (.int 2147483647)))) (fun i ρ => ∃ z y, z < 2147483647 ∧ ρ = [some (.d (.list (ofInts ns))), some (on z), y]) (items := ofInts ns) (ρ := [some (.d (.list (ofInts ns))), some (on 5), none]) (by
    rintro i d ρ hd ⟨z, y, hz, rfl⟩
    have hi : i < ns.length := by
      have := (List.getElem?_eq_some_iff.mp hd).1
      rwa [ofInts_length] at this
    rw [ofInts_get hi] at hd
    cases hd
    exact ⟨_, _, rfl, .inl (set_ok (op2 (op2 (op2 (op2 (var_d rfl) rfl (oMul_n z 48271 (.inr (by omega)))) (op2 (int_i (var_d rfl)) rfl (oMod_i ns[i] 2147483629 (by omega))) (oAdd_n _ _)) rfl (oAdd_n _ 11)) rfl (oMod_n _ 2147483647 (by omega)))), _, _, Nat.mod_lt _ (by omega), rfl⟩) ⟨5, none, by omega, rfl⟩
  obtain ⟨ρ', e, z, y, hz, rfl⟩ := loop
  have hls : mFrz (mCallL lList (mCons (mVar 0) mNil)) [some (.d (.list (ofInts ns))), some (on z), y] = .ok (.o (.d (.list (ofInts ns)))) [some (.d (.list (ofInts ns))), some (on z), y] := frz_d (by
    unfold mCallL mCons mNil
    simp only [R.bind, var_d (i := 0) (ρ := [some (.d (.list (ofInts ns))), some (on z), y]) rfl, viewRs, Rv.view, O.view, lList])
  have hr : mLstO (mCons (mFrz (mCallL lList (mCons (mVar 0) mNil))) (mCons (mC (.int 0)) (mCons (mC (.int 0)) (mCons (mVar 1) mNil)))) [some (.d (.list (ofInts ns))), some (on z), y] = .ok (.o (dst ns 0 0 z)) [some (.d (.list (ofInts ns))), some (on z), y] := lstO_ok (ms_cons hls (ms_cons rfl (ms_cons rfl (ms_cons (var_d rfl) rfl)))) rfl rfl
  exact ⟨dst ns 0 0 z, fn_rt (seq_nx (set_ok rfl) (seq_nx (for_ok (items_l (var_d rfl)) e) (ret_ok hr))) rfl, ns, 0, 0, z, rfl, hz⟩
theorem pick_at {o : O} (hd : Dr o) {xs : List PyData} (h : 0 < xs.length) (h2 : xs.length < 1073741824) : ∃ (i : Nat) (x : PyData) (o' : O), f_law_pick [o, .d (.list xs)] = .ok (.d x) [o'] ∧ xs[i]? = some x ∧ Dr o' := by
  obtain ⟨r, o', e, hr, hd'⟩ := take_at hd (j := 0) (m := mCallB fLen (mCons (mVar 1) mNil)) (ρ := [some o, some (.d (.list xs))]) rfl (len_l (var_d rfl)) h h2
  have hx : xs[r]? = some xs[r] := by simp [hr]
  exact ⟨r, xs[r], o', fn_rt (ret_ok (op2 (var_d rfl) e (by rw [oIx_l]; exact hx))) rfl, hx, hd'⟩
theorem shuffled_spec {o : O} (hd : Dr o) {n : Nat} (hn : n ≤ 1000) : ∃ (p : List Nat) (o' : O), f_law_shuffled [o, on n] = .ok (.tf (p.map dn)) [o'] ∧ p.Perm (List.range n) ∧ Dr o' := by
  have comp := lc_inv (mi := mWalk k1 (mCons (mVar 1) mNil)) (j := 3) (c := mYes) (e := mPopAt 2 (mCall [0] 2 f_law_take (mCons (mVar 0) (mCons (mCallB fLen (mCons (mVar 2) mNil)) mNil)))) (ρ0 := [some o, some (on n), some (ol ((List.range n).map dn)), none]) (items := (List.range n).map dn)
    (fun i acc ρ => ∃ o' taken rest, Dr o' ∧ acc = taken.map on ∧ ρ = [some o', some (on n), some (ol (rest.map dn)), none] ∧ (taken ++ rest).Perm (List.range n) ∧ taken.length = i) (walk1 (var_d rfl) (by omega)) rfl (by
      rintro i d acc ρ hd ⟨o', taken, rest, hd', rfl, rfl, hp, hi⟩
      obtain ⟨hi2, rfl⟩ := map_at hd
      have hlen := hp.length_eq
      rw [List.length_append, List.length_range] at hlen
      rw [List.length_range] at hi2
      obtain ⟨r, o2, e, hr, hd2⟩ := take_at hd' (j := 0) (m := mCallB fLen (mCons (mVar 2) mNil)) (many := rest.length) (ρ := [some o', some (on n), some (ol (rest.map dn)), some (on (List.range n)[i])]) rfl (by
        have := own_len (j := 2) (ρ := [some o', some (on n), some (ol (rest.map dn)), some (on (List.range n)[i])]) rfl
        rwa [List.length_map] at this) (by omega) (by omega)
      refine ⟨true, _, rfl, fun _ => ⟨on rest[r], _, popAt_ok (k := r) rfl rfl e (by rw [List.map_map, List.getElem?_map, List.getElem?_eq_getElem hr]; rfl) (by omega), rfl, o2, taken ++ [rest[r]], rest.eraseIdx r, hd2, by rw [List.map_append]; rfl, ?_, ?_, by rw [List.length_append, hi]; rfl⟩, fun z => by cases z⟩
      · show [some o2, some (on n), some (.lst (((rest.map dn).map O.d).eraseIdx r)), none] = [some o2, some (on n), some (ol ((rest.eraseIdx r).map dn)), none]
        rw [erase_map, erase_map]
      · rw [List.append_assoc]
        exact (List.Perm.append_left taken (erase_perm rest r hr)).trans hp)
    ⟨o, [], List.range n, hd, rfl, rfl, List.Perm.refl _, rfl⟩ (by
      rintro os ρ' ⟨o', taken, rest, _, rfl, _, _, h⟩
      rw [List.length_map, h, List.length_map, List.length_range]
      omega)
  obtain ⟨os, ρ', e, o', taken, rest, hd', rfl, rfl, hp, hi⟩ := comp
  have hlen := hp.length_eq
  rw [List.length_append, List.length_range, hi, List.length_map, List.length_range] at hlen
  have hr : rest = [] := List.length_eq_zero_iff.mp (by omega)
  subst hr
  rw [List.append_nil] at hp
  rw [on_lst] at e
  have h0 := lrg_ok (m := mVar 1) (ρ := [some o, some (on n), none, none]) (n := n) (var_d rfl) (by omega)
  rw [on_lst] at h0
  exact ⟨taken, o', fn_rt (seq_nx (set_ok h0) (ret_ok (tupF_ok e))) rfl, hp, hd'⟩
/-- an order by new names -/
def named (us p : List Nat) : List Nat := (List.range us.length).map fun x => orL ((bl (us.getD (idxN x p) 0)).map fun y => p.getD y 0)
theorem named_spec (us p : List Nat) (hn : us.length ≤ 60) (hp : p.Perm (List.range us.length)) (hu : ∀ x, x < us.length → us.getD x 0 < 2 ^ us.length) : f_law_named [.d (tn us), .tf (p.map dn)] = .ok (.d (tn (named us p))) [] := by
  have hpl : p.length = us.length := by rw [hp.length_eq, List.length_range]
  have hpm : ∀ x, x < us.length → x ∈ p := fun x hx => hp.mem_iff.mpr (List.mem_range.mpr hx)
  have hpv : ∀ y, y < us.length → p.getD y 0 < us.length := fun y hy => by
    rw [getD_at (by omega)]
    exact List.mem_range.mp (hp.mem_iff.mp (List.getElem_mem _))
  have hbl : ∀ x, x < us.length → ∀ y ∈ bl (us.getD x 0), y < us.length := fun x hx y hy => by
    rw [bl_eq (hu x hx)] at hy
    exact (mem_pos.mp hy).1
  have hix : ∀ x, x < us.length → idxN x p < us.length := fun x hx => by
    obtain ⟨h, _⟩ := idxN_get x (hpm x hx)
    omega
  have inner : ∀ x, x < us.length → mFrz (mLc (mItems (mCall [] 1 f_law_members (mCons (mOp oIx (mVar 0) (mIdx 1 (mVar 4))) mNil))) (.n 3) [3] mYes (mOp oIx (mVar 1) (mVar 3))) [some (.d (tn us)), some (.tf (p.map dn)), some (on us.length), none, some (on x)] =
      .ok (.o (.d (ln ((bl (us.getD (idxN x p) 0)).map fun y => p.getD y 0)))) [some (.d (tn us)), some (.tf (p.map dn)), some (on us.length), none, some (on x)] := fun x hx => by
    have hb : us.getD (idxN x p) 0 < 2 ^ 1000 := Nat.lt_of_lt_of_le (hu _ (hix x hx)) (Nat.pow_le_pow_right (by omega) (by omega))
    have hb2 : (bl (us.getD (idxN x p) 0)).length ≤ us.length := by rw [bl_eq (hu _ (hix x hx))]; exact pos_length _ _
    have hm := lc_map (mi := mItems (mCall [] 1 f_law_members (mCons (mOp oIx (mVar 0) (mIdx 1 (mVar 4))) mNil))) (j := 3) (e := mOp oIx (mVar 1) (mVar 3)) (ρ := [some (.d (tn us)), some (.tf (p.map dn)), some (on us.length), none, some (on x)]) (l := bl (us.getD (idxN x p) 0)) (fun y => dn (p.getD y 0))
      (items_t (call1 (op2 (var_d rfl) (idx_ok rfl (var_d rfl) (hpm x hx)) (ix_t (hix x hx))) (law_members_spec _ hb))) rfl (fun y hy => by
        have hy2 := hbl _ (hix x hx) y hy
        refine ix_tf rfl (var_d rfl) ?_
        rw [map_get p y (by omega), getD_at (by omega)]) (by omega)
    have hd : ((bl (us.getD (idxN x p) 0)).map fun y => O.d (dn (p.getD y 0))) = ((bl (us.getD (idxN x p) 0)).map fun y => p.getD y 0).map on := by rw [List.map_map]; rfl
    rw [hd] at hm
    exact frz_on hm
  have outer := lc_map (mi := mWalk k1 (mCons (mVar 2) mNil)) (j := 4) (e := mCall [] 1 f_law_bits (mCons (mFrz (mLc (mItems (mCall [] 1 f_law_members (mCons (mOp oIx (mVar 0) (mIdx 1 (mVar 4))) mNil))) (.n 3) [3] mYes (mOp oIx (mVar 1) (mVar 3)))) mNil)) (ρ := [some (.d (tn us)), some (.tf (p.map dn)), some (on us.length), none, none])
    (l := List.range us.length) (fun x => dn (orL ((bl (us.getD (idxN x p) 0)).map fun y => p.getD y 0))) (walk1 (var_d rfl) (by omega)) rfl (fun x hx => by
      have hx := List.mem_range.mp hx
      have hb2 : ((bl (us.getD (idxN x p) 0)).map fun y => p.getD y 0).length ≤ us.length := by rw [List.length_map, bl_eq (hu _ (hix x hx))]; exact pos_length _ _
      have hs := sortN_length ((bl (us.getD (idxN x p) 0)).map fun y => p.getD y 0)
      have hb := law_bits_spec ((bl (us.getD (idxN x p) 0)).map fun y => p.getD y 0) (by omega) (by omega) (fun k hk => by
        obtain ⟨y, hy, rfl⟩ := List.mem_map.mp hk
        have := hpv y (hbl _ (hix x hx) y hy)
        omega)
      exact call1 (inner x hx) hb) (by rw [List.length_range]; omega)
  have hd : ((List.range us.length).map fun x => O.d (dn (orL ((bl (us.getD (idxN x p) 0)).map fun y => p.getD y 0)))) = ((named us p).map dn).map O.d := by
    unfold named
    rw [List.map_map, List.map_map]
    rfl
  rw [hd] at outer
  have lenE : mCallB fLen (mCons (mVar 0) mNil) [some (.d (tn us)), some (.tf (p.map dn)), none, none, none] = .ok (.o (on us.length)) [some (.d (tn us)), some (.tf (p.map dn)), none, none, none] := by
    have := len_t (m := mVar 0) (ρ := [some (.d (tn us)), some (.tf (p.map dn)), none, none, none]) (var_d rfl)
    rwa [List.length_map] at this
  exact fn_rt (seq_nx (set_ok lenE) (ret_ok (tuple_on outer))) rfl
end K50
end
section
set_option Elab.async false
set_option linter.all false
set_option maxRecDepth 100000
set_option autoImplicit false
set_option exponentiation.threshold 2000
namespace K50
open PySem FL
/-! ### a table of truth values -/
abbrev rowO (row : List Bool) : O := .lst (row.map fun b => .d (.bool b))
abbrev matO (mat : List (List Bool)) : O := .lst (mat.map rowO)
def Sq (n : Nat) (mat : List (List Bool)) : Prop := mat.length = n ∧ ∀ row ∈ mat, row.length = n
def at2 (mat : List (List Bool)) (a b : Nat) : Bool := (mat.getD a []).getD b false
def set2 (mat : List (List Bool)) (a b : Nat) : List (List Bool) := mat.set a ((mat.getD a []).set b true)
theorem Sq.row {n : Nat} {mat : List (List Bool)} (h : Sq n mat) {a : Nat} (ha : a < n) : mat[a]? = some (mat.getD a []) ∧ (mat.getD a []).length = n := by
  have hl : a < mat.length := by rw [h.1]; exact ha
  have e : mat.getD a [] = mat[a] := by simp [List.getD_eq_getElem?_getD, hl]
  rw [e]
  exact ⟨List.getElem?_eq_getElem hl, h.2 _ (List.getElem_mem hl)⟩
theorem Sq.set2 {n : Nat} {mat : List (List Bool)} (h : Sq n mat) {a : Nat} (ha : a < n) (b : Nat) : Sq n (set2 mat a b) := by
  refine ⟨by unfold K50.set2; rw [List.length_set]; exact h.1, fun row hr => ?_⟩
  unfold K50.set2 at hr
  rcases List.mem_or_eq_of_mem_set hr with q | q
  · exact h.2 row q
  · rw [q, List.length_set]
    exact (h.row ha).2
theorem matO_row {n : Nat} {mat : List (List Bool)} (h : Sq n mat) {a : Nat} (ha : a < n) : (mat.map rowO)[a]? = some (rowO (mat.getD a [])) := by
  rw [List.getElem?_map, (h.row ha).1]
  rfl
theorem rowO_at {n : Nat} {row : List Bool} (h : row.length = n) {b : Nat} (hb : b < n) : (row.map fun b => O.d (.bool b))[b]? = some (.d (.bool (row.getD b false))) := by
  rw [List.getElem?_map, List.getElem?_eq_getElem (by omega)]
  simp [List.getD_eq_getElem?_getD, h, hb]
theorem intAt_n {ρ : FL.Env} {i k : Nat} (h : ρ[i]? = some (some (on k))) : FL.intAt ρ i = some (k : Int) := by
  unfold FL.intAt
  rw [h]
theorem ix2_ok {ρ : FL.Env} {j i k n a b : Nat} {mat : List (List Bool)} (hm : ρ[j]? = some (some (matO mat))) (hs : Sq n mat) (hi : ρ[i]? = some (some (on a))) (hk : ρ[k]? = some (some (on b))) (ha : a < n) (hb : b < n) : mIx2 j i k ρ = .ok (.o (.d (.bool (at2 mat a b)))) ρ := by
  unfold mIx2
  simp only [hm, intAt_n hi, intAt_n hk, atI_n, matO_row hs ha, rowO_at (hs.row ha).2 hb]
  rfl
theorem setIx2_ok {ρ : FL.Env} {j i k n a b : Nat} {mat : List (List Bool)} (hm : ρ[j]? = some (some (matO mat))) (hs : Sq n mat) (hi : ρ[i]? = some (some (on a))) (hk : ρ[k]? = some (some (on b))) (ha : a < n) (hb : b < n) : mSetIx2 j i k (mC (.bool true)) ρ = .nx (ρ.set j (some (matO (set2 mat a b)))) := by
  have e1 : L2.ixN (mat.map rowO).length (a : Int) = some a := ixN_n (by rw [List.length_map, hs.1]; exact ha)
  have e2 : L2.ixN ((mat.getD a []).map fun b => O.d (.bool b)).length (b : Int) = some b := ixN_n (by rw [List.length_map, (hs.row ha).2]; exact hb)
  unfold mSetIx2 mC
  simp only [R.toS, Rv.datR, O.dat, hm, intAt_n hi, intAt_n hk, e1, matO_row hs ha, e2, rowO_at (hs.row ha).2 hb]
  unfold K50.set2 matO rowO
  rw [List.map_set, List.map_set]
def GoodPs (n : Nat) (ps : List PyData) : Prop := ∀ d ∈ ps, ∃ a b, d = .tuple [dn a, dn b] ∧ a < n ∧ b < n
theorem oEqB (a b : Bool) : oEq (.bool a) (.bool b) = some (.bool (a == b)) := by
  cases a <;> cases b <;> rfl
/-- the order that a table says -/
def ofMat (n : Nat) (mat : List (List Bool)) : List Nat := (List.range n).map fun x => orL ((List.range n).filter fun y => at2 mat x y)
theorem close_rows (n : Nat) (hn : n ≤ 60) (ps : PyData) (y3 x4 x5 : Option O) (h3 : Dy y3) (h4 : Dy x4) (mat : List (List Bool)) (hs : Sq n mat) : ∃ ρ', mCallB fTuple (mCons (mLc (mWalk k1 (mCons (mVar 0) mNil)) (.n 4) [4] mYes (mCall [] 1 f_law_bits (mCons (mFrz (mLc (mWalk k1 (mCons (mVar 0) mNil)) (.n 3) [3] (mTst tru (mIx2 2 4 3)) (mVar 3))) mNil))) mNil) [some (on n), some (.d ps), some (matO mat), y3, x4, x5] = .ok (.o (.d (tn (ofMat n mat)))) ρ' := by
  have inner : ∀ x y, Dy y → x < n → mFrz (mLc (mWalk k1 (mCons (mVar 0) mNil)) (.n 3) [3] (mTst tru (mIx2 2 4 3)) (mVar 3)) [some (on n), some (.d ps), some (matO mat), y, some (on x), x5] = .ok (.o (.d (ln ((List.range n).filter fun y => at2 mat x y)))) [some (on n), some (.d ps), some (matO mat), none, some (on x), x5] := fun x y hy hx => by
    have h := frz_on (lc_filter (mi := mWalk k1 (mCons (mVar 0) mNil)) (j := 3) (c := mTst tru (mIx2 2 4 3)) (ρ := [some (on n), some (.d ps), some (matO mat), none, some (on x), x5]) (fun y => at2 mat x y) (walk1 (var_d rfl) (by omega)) rfl (fun y hy => tstT (ix2_ok rfl hs rfl rfl hx (List.mem_range.mp hy))) (by rw [List.length_range]; omega))
    have w := lc_wipe (mi := mWalk k1 (mCons (mVar 0) mNil)) (tg := .n 3) (j := 3) (c := mTst tru (mIx2 2 4 3)) (e := mVar 3) (ρ := [some (on n), some (.d ps), some (matO mat), y, some (on x), x5]) (walk1 (var_d rfl) (by omega)) (walk1 (var_d rfl) (by omega)) (hy.at rfl) (by simp)
    unfold mFrz at h ⊢
    rw [w]
    exact h
  have outer := lc_inv (mi := mWalk k1 (mCons (mVar 0) mNil)) (j := 4) (c := mYes) (e := mCall [] 1 f_law_bits (mCons (mFrz (mLc (mWalk k1 (mCons (mVar 0) mNil)) (.n 3) [3] (mTst tru (mIx2 2 4 3)) (mVar 3))) mNil)) (ρ0 := [some (on n), some (.d ps), some (matO mat), y3, none, x5]) (items := (List.range n).map dn)
    (fun i acc ρ => ∃ y, Dy y ∧ ρ = [some (on n), some (.d ps), some (matO mat), y, none, x5] ∧ acc = (((ofMat n mat).take i).map dn).map O.d) (walk1 (var_d rfl) (by omega)) rfl (by
      rintro i d acc ρ hd ⟨y, hy, rfl, rfl⟩
      obtain ⟨hi, rfl⟩ := map_at hd
      rw [List.length_range] at hi
      have hl : ((List.range n).filter fun y => at2 mat (List.range n)[i] y).length ≤ n := Nat.le_trans (List.length_filter_le _ _) (by simp)
      have hs2 := sortN_length ((List.range n).filter fun y => at2 mat (List.range n)[i] y)
      refine ⟨true, _, rfl, fun _ => ⟨_, _, call1 (inner (List.range n)[i] y hy (by simpa using hi)) (law_bits_spec _ (by omega) (by omega) (fun k hk => by
        have := List.mem_range.mp (List.mem_filter.mp hk).1
        omega)), rfl, none, Dy.non, rfl, ?_⟩, fun z => by cases z⟩
      rw [take_snoc (ofMat n mat) i (by simp [ofMat]; exact hi), List.map_append, List.map_append]
      simp [ofMat]) ⟨y3, h3, rfl, rfl⟩ (by
      rintro os ρ' ⟨y, hy, rfl, rfl⟩
      simp [ofMat]
      omega)
  obtain ⟨os, ρ', e, y, hy, rfl, rfl⟩ := outer
  rw [List.length_map, List.length_range, List.take_of_length_le (by simp [ofMat])] at e
  have w := lc_wipe (mi := mWalk k1 (mCons (mVar 0) mNil)) (tg := .n 4) (j := 4) (c := mYes) (e := mCall [] 1 f_law_bits (mCons (mFrz (mLc (mWalk k1 (mCons (mVar 0) mNil)) (.n 3) [3] (mTst tru (mIx2 2 4 3)) (mVar 3))) mNil)) (ρ := [some (on n), some (.d ps), some (matO mat), y3, x4, x5]) (items := (List.range n).map dn) (walk1 (var_d rfl) (by omega)) (walk1 (var_d rfl) (by omega)) (h4.at rfl) (by simp)
  exact ⟨_, tuple_on (w.trans e)⟩
/-- the table at the start -/
def eqMat (n : Nat) : List (List Bool) := (List.range n).map fun x => (List.range n).map fun y => decide (x = y)
theorem eqMat_sq (n : Nat) : Sq n (eqMat n) := by
  refine ⟨by simp [eqMat], fun row hr => ?_⟩
  obtain ⟨x, _, rfl⟩ := List.mem_map.mp hr
  simp
theorem close_start (n : Nat) (hn : n ≤ 60) (ps : PyData) : mLc (mWalk k1 (mCons (mVar 0) mNil)) (.n 4) [4] mYes (mLc (mWalk k1 (mCons (mVar 0) mNil)) (.n 3) [3] mYes (mOp oEq (mVar 4) (mVar 3))) [some (on n), some (.d ps), none, none, none, none] = .ok (.o (matO (eqMat n))) [some (on n), some (.d ps), none, none, none, none] := by
  have inner : ∀ x, mLc (mWalk k1 (mCons (mVar 0) mNil)) (.n 3) [3] mYes (mOp oEq (mVar 4) (mVar 3)) [some (on n), some (.d ps), none, none, some (on x), none] = .ok (.o (rowO ((List.range n).map fun y => decide (x = y)))) [some (on n), some (.d ps), none, none, some (on x), none] := fun x => by
    have := lc_map (mi := mWalk k1 (mCons (mVar 0) mNil)) (j := 3) (e := mOp oEq (mVar 4) (mVar 3)) (ρ := [some (on n), some (.d ps), none, none, some (on x), none]) (l := List.range n) (fun y => .bool (decide (x = y))) (walk1 (var_d rfl) (by omega)) rfl (fun y hy => op2 (var_d rfl) (var_d rfl) (oEq_n x y)) (by rw [List.length_range]; omega)
    rw [this]
    unfold rowO
    rw [List.map_map]
    rfl
  have outer := lc_gen (mi := mWalk k1 (mCons (mVar 0) mNil)) (j := 4) (c := mYes) (e := mLc (mWalk k1 (mCons (mVar 0) mNil)) (.n 3) [3] mYes (mOp oEq (mVar 4) (mVar 3))) (ρ := [some (on n), some (.d ps), none, none, none, none]) (items := (List.range n).map dn) (walk1 (var_d rfl) (by omega)) rfl (valO fun k => rowO ((List.range n).map fun y => decide (k = y))) (fun d hd => by
    obtain ⟨x, hx, rfl⟩ := List.mem_map.mp hd
    exact ⟨true, rfl, fun _ => ⟨_, rfl, inner x⟩, fun z => by cases z⟩) (by rw [List.length_map, List.length_range]; omega)
  rw [outer, fm_valO]
  unfold matO eqMat
  rw [List.map_map]
  rfl
/-- the inner step -/
theorem close_step (n : Nat) (hn : n ≤ 60) (ps : PyData) (mat : List (List Bool)) (hs : Sq n mat) {x y z : Nat} (hx : x < n) (hy : y < n) (hz : z < n) :
    ∃ mat', mIfS (mAndT (mTst tru (mIx2 2 4 5)) (mTst tru (mIx2 2 5 3))) (mSetIx2 2 4 3 (mC (.bool true))) mSkip [some (on n), some (.d ps), some (matO mat), some (on y), some (on x), some (on z)] = .nx [some (on n), some (.d ps), some (matO mat'), some (on y), some (on x), some (on z)] ∧ Sq n mat' ∧ mat' = (if (at2 mat x z && at2 mat z y) = true then set2 mat x y else mat) := by
  have t1 : mTst tru (mIx2 2 4 5) [some (on n), some (.d ps), some (matO mat), some (on y), some (on x), some (on z)] = .ok (at2 mat x z) [some (on n), some (.d ps), some (matO mat), some (on y), some (on x), some (on z)] := tstT (ix2_ok rfl hs rfl rfl hx hz)
  have t2 : mTst tru (mIx2 2 5 3) [some (on n), some (.d ps), some (matO mat), some (on y), some (on x), some (on z)] = .ok (at2 mat z y) [some (on n), some (.d ps), some (matO mat), some (on y), some (on x), some (on z)] := tstT (ix2_ok rfl hs rfl rfl hz hy)
  cases e1 : at2 mat x z with
  | false =>
    rw [e1] at t1
    exact ⟨mat, if_f (and_ff t1) rfl, hs, rfl⟩
  | true =>
    rw [e1] at t1
    cases e2 : at2 mat z y with
    | false =>
      rw [e2] at t2
      exact ⟨mat, if_f (and_tt t1 t2) rfl, hs, rfl⟩
    | true =>
      rw [e2] at t2
      exact ⟨set2 mat x y, if_t (and_tt t1 t2) (setIx2_ok rfl hs rfl rfl hx hy), hs.set2 hx y, rfl⟩
theorem close_spec (n : Nat) (hn : n ≤ 60) (ps : List PyData) (hp : GoodPs n ps) : ∃ mat, Sq n mat ∧ f_law_close [on n, .d (.list ps)] = .ok (.d (tn (ofMat n mat))) [] := by
  -- the pairs
  obtain ⟨ρ1, e1, mat1, y1, x1, hs1, hy1, hx1, rfl⟩ := forL_inv (tg := .t [4, 3]) (b := mSetIx2 2 4 3 (mC (.bool true))) (fun i ρ => ∃ mat y x, Sq n mat ∧ Dy y ∧ Dy x ∧ ρ = [some (on n), some (.d (.list ps)), some (matO mat), y, x, none]) (items := ps) (ρ := [some (on n), some (.d (.list ps)), some (matO (eqMat n)), none, none, none]) (by
    rintro i d ρ hd ⟨mat, y, x, hs, _, _, rfl⟩
    obtain ⟨a, b, rfl, ha, hb⟩ := hp d (List.mem_of_getElem? hd)
    exact ⟨_, _, rfl, .inl (setIx2_ok rfl hs rfl rfl ha hb), set2 mat a b, some (on b), some (on a), hs.set2 ha b, Dy.on, Dy.on, rfl⟩) ⟨eqMat n, none, none, eqMat_sq n, Dy.non, Dy.non, rfl⟩
  -- the three loops
  have body3 : ∀ (mat : List (List Bool)) (z x : Nat) (y0 : Option O), Dy y0 → Sq n mat → z < n → x < n → ∃ mat' y', Dy y' ∧ forL (.n 3) (mIfS (mAndT (mTst tru (mIx2 2 4 5)) (mTst tru (mIx2 2 5 3))) (mSetIx2 2 4 3 (mC (.bool true))) mSkip) ((List.range n).map dn) [some (on n), some (.d (.list ps)), some (matO mat), y0, some (on x), some (on z)] = .nx [some (on n), some (.d (.list ps)), some (matO mat'), y', some (on x), some (on z)] ∧ Sq n mat' := by
    intro mat z x y0 hy0 hs hz hx
    obtain ⟨ρ', e, mat', y', hs', hy', rfl⟩ := forL_inv (tg := .n 3) (b := mIfS (mAndT (mTst tru (mIx2 2 4 5)) (mTst tru (mIx2 2 5 3))) (mSetIx2 2 4 3 (mC (.bool true))) mSkip) (fun i ρ => ∃ mat y, Sq n mat ∧ Dy y ∧ ρ = [some (on n), some (.d (.list ps)), some (matO mat), y, some (on x), some (on z)]) (items := (List.range n).map dn) (ρ := [some (on n), some (.d (.list ps)), some (matO mat), y0, some (on x), some (on z)]) (by
      rintro i d ρ hd ⟨mat, y, hs, hy, rfl⟩
      obtain ⟨hi, rfl⟩ := map_at hd
      rw [List.length_range] at hi
      obtain ⟨mat', e, hs', _⟩ := close_step n hn (.list ps) mat hs hx (y := (List.range n)[i]) (by simpa using hi) hz
      exact ⟨_, _, rfl, .inl e, mat', _, hs', Dy.on, rfl⟩) ⟨mat, y0, hs, hy0, rfl⟩
    exact ⟨mat', y', hy', e, hs'⟩
  have body2 : ∀ (mat : List (List Bool)) (z : Nat) (y0 x0 : Option O), Dy y0 → Dy x0 → Sq n mat → z < n → ∃ mat' y' x', Dy y' ∧ Dy x' ∧ forL (.n 4) (mFor (mWalk k1 (mCons (mVar 0) mNil)) (.n 3) (mIfS (mAndT (mTst tru (mIx2 2 4 5)) (mTst tru (mIx2 2 5 3))) (mSetIx2 2 4 3 (mC (.bool true))) mSkip)) ((List.range n).map dn) [some (on n), some (.d (.list ps)), some (matO mat), y0, x0, some (on z)] = .nx [some (on n), some (.d (.list ps)), some (matO mat'), y', x', some (on z)] ∧ Sq n mat' := by
    intro mat z y0 x0 hy0 hx0 hs hz
    obtain ⟨ρ', e, mat', y', x', hs', hy', hx', rfl⟩ := forL_inv (tg := .n 4) (b := mFor (mWalk k1 (mCons (mVar 0) mNil)) (.n 3) (mIfS (mAndT (mTst tru (mIx2 2 4 5)) (mTst tru (mIx2 2 5 3))) (mSetIx2 2 4 3 (mC (.bool true))) mSkip)) (fun i ρ => ∃ mat y x, Sq n mat ∧ Dy y ∧ Dy x ∧ ρ = [some (on n), some (.d (.list ps)), some (matO mat), y, x, some (on z)]) (items := (List.range n).map dn) (ρ := [some (on n), some (.d (.list ps)), some (matO mat), y0, x0, some (on z)]) (by
      rintro i d ρ hd ⟨mat, y, x, hs, hy, hx, rfl⟩
      obtain ⟨hi, rfl⟩ := map_at hd
      rw [List.length_range] at hi
      obtain ⟨mat', y', hy', e, hs'⟩ := body3 mat z (List.range n)[i] y hy hs hz (by simpa using hi)
      exact ⟨_, _, rfl, .inl (for_ok (walk1 (var_d rfl) (by omega)) e), mat', _, _, hs', hy', Dy.on, rfl⟩) ⟨mat, y0, x0, hs, hy0, hx0, rfl⟩
    exact ⟨mat', y', x', hy', hx', e, hs'⟩
  obtain ⟨ρ2, e2, mat2, y2, x2, z2, hs2, hy2, hx2, rfl⟩ := forL_inv (tg := .n 5) (b := mFor (mWalk k1 (mCons (mVar 0) mNil)) (.n 4) (mFor (mWalk k1 (mCons (mVar 0) mNil)) (.n 3) (mIfS (mAndT (mTst tru (mIx2 2 4 5)) (mTst tru (mIx2 2 5 3))) (mSetIx2 2 4 3 (mC (.bool true))) mSkip))) (fun i ρ => ∃ mat y x z, Sq n mat ∧ Dy y ∧ Dy x ∧ ρ = [some (on n), some (.d (.list ps)), some (matO mat), y, x, z]) (items := (List.range n).map dn) (ρ := [some (on n), some (.d (.list ps)), some (matO mat1), y1, x1, none]) (by
    rintro i d ρ hd ⟨mat, y, x, z, hs, hy, hx, rfl⟩
    obtain ⟨hi, rfl⟩ := map_at hd
    rw [List.length_range] at hi
    obtain ⟨mat', y', x', hy', hx', e, hs'⟩ := body2 mat (List.range n)[i] y x hy hx hs (by simpa using hi)
    exact ⟨_, _, rfl, .inl (for_ok (walk1 (var_d rfl) (by omega)) e), mat', _, _, _, hs', hy', hx', rfl⟩) ⟨mat1, y1, x1, none, hs1, hy1, hx1, rfl⟩
  obtain ⟨ρ', e3⟩ := close_rows n hn (.list ps) y2 x2 z2 hy2 hx2 mat2 hs2
  have hfin : outsE [] ρ' = some [] := rfl
  exact ⟨mat2, hs2, fn_rt (seq_nx (set_ok (close_start n hn (.list ps))) (seq_nx (for_ok (items_l (var_d rfl)) e1) (seq_nx (for_ok (walk1 (var_d rfl) (by omega)) e2) (ret_ok e3)))) rfl⟩
end K50
end
section
set_option Elab.async false
set_option linter.all false
set_option maxRecDepth 100000
set_option autoImplicit false
set_option exponentiation.threshold 2000
namespace K50
open PySem FL
/-! ### orders drawn: their form -/
def Form (us : List Nat) (n : Nat) : Prop := us.length = n ∧ ∀ x, x < n → us.getD x 0 < 2 ^ n
theorem ofMat_form (n : Nat) (mat : List (List Bool)) : Form (ofMat n mat) n := by
  refine ⟨by simp [ofMat], fun x hx => ?_⟩
  rw [getD_at (by simp [ofMat]; exact hx)]
  simp only [ofMat, List.getElem_map]
  exact orL_lt fun k hk => List.mem_range.mp (List.mem_filter.mp hk).1
theorem named_form {us p : List Nat} {n : Nat} (h : Form us n) (hp : p.Perm (List.range n)) : Form (named us p) n := by
  refine ⟨by simp [named, h.1], fun x hx => ?_⟩
  rw [getD_at (by simp [named, h.1]; exact hx)]
  simp only [named, List.getElem_map]
  refine orL_lt fun k hk => ?_
  obtain ⟨y, hy, rfl⟩ := List.mem_map.mp hk
  have hpl : p.length = n := by rw [hp.length_eq, List.length_range]
  by_cases hy2 : y < n
  · rw [getD_at (by omega)]
    exact List.mem_range.mp (hp.mem_iff.mp (List.getElem_mem _))
  · rw [List.getD_eq_getElem?_getD, List.getElem?_eq_none (by omega)]
    simp
    omega
def Sh (o : O) (most n menu : Nat) (ps : List PyData) (c5 y6 x7 l8 e9 c10 : Option O) : FL.Env := [some o, some (on most), some (on n), some (on menu), some (ol ps), c5, y6, x7, l8, e9, c10]
/-- how a branch ends -/
def Good (most n menu : Nat) (r : RS) : Prop := ∃ o ps c5 y6 x7 l8 e9 c10, r = .nx (Sh o most n menu ps c5 y6 x7 l8 e9 c10) ∧ Dr o ∧ GoodPs n ps ∧ ps.length ≤ 1000
theorem good_nil (n : Nat) : GoodPs n [] := fun d h => by cases h
theorem good_app {n : Nat} {ps qs : List PyData} (h : GoodPs n ps) (h2 : GoodPs n qs) : GoodPs n (ps ++ qs) := fun d hd => (List.mem_append.mp hd).elim (h d) (h2 d)
theorem good_one {n a b : Nat} (ha : a < n) (hb : b < n) : GoodPs n [.tuple [dn a, dn b]] := fun d hd => ⟨a, b, by simpa using hd, ha, hb⟩
theorem pair_ok {i j a b : Nat} {ρ : FL.Env} (h1 : ρ[i]? = some (some (on a))) (h2 : ρ[j]? = some (some (on b))) : mTup (mCons (mVar i) (mCons (mVar j) mNil)) ρ = .ok (.o (.d (.tuple [dn a, dn b]))) ρ := tup_ok (ms_cons (var_d h1) (ms_cons (var_d h2) rfl)) rfl rfl
/-- a walk whose turns lengthen the pairs by at most n -/
theorem branch1 {o : O} (hd : Dr o) {most n menu : Nat} (hn : n ≤ 20) : Good most n menu (mSeq (mSet 5 (mCall [0] 2 f_law_pick (mCons (mVar 0) (mCons (mLstD (mCons (mC (.int 2)) (mCons (mC (.int 3)) (mCons (mC (.int 4)) (mCons (mC (.int 7)) mNil))))) mNil))))
  (mFor (mWalk k1 (mCons (mVar 2) mNil)) (.n 6)
  (mExpr (mExtend 4 (mLc (mWalk k1 (mCons (mVar 6) mNil)) (.n 7) [7] (mTst asB (mOp oEq (mCall [0] 2 f_law_take (mCons (mVar 0) (mCons (mVar 5) mNil))) (mC (.int 0)))) (mTup (mCons (mVar 7) (mCons (mVar 6) mNil))))))) (Sh o most n menu [] none none none none none none)) := by
  obtain ⟨i, x, o1, e1, hx, hd1⟩ := pick_at hd (xs := [dn 2, dn 3, dn 4, dn 7]) (by simp) (by simp)
  obtain ⟨c, rfl, hc⟩ : ∃ c : Nat, x = dn c ∧ 0 < c ∧ c < 8 := by
    have := List.mem_of_getElem? hx
    simp at this
    rcases this with rfl | rfl | rfl | rfl
    · exact ⟨2, rfl, by omega, by omega⟩
    · exact ⟨3, rfl, by omega, by omega⟩
    · exact ⟨4, rfl, by omega, by omega⟩
    · exact ⟨7, rfl, by omega, by omega⟩
  obtain ⟨xs0, rfl⟩ := hd.own
  have e2 : mCall [0] 2 f_law_pick (mCons (mVar 0) (mCons (mLstD (mCons (mC (.int 2)) (mCons (mC (.int 3)) (mCons (mC (.int 4)) (mCons (mC (.int 7)) mNil))))) mNil)) (Sh (ol xs0) most n menu [] none none none none none none) = .ok (.o (on c)) (Sh o1 most n menu [] none none none none none none) :=
    callD rfl (own_var rfl) (lstD_ok (ys := [dn 2, dn 3, dn 4, dn 7]) (ms_cons rfl (ms_cons rfl (ms_cons rfl (ms_cons rfl rfl)))) rfl rfl) e1
  obtain ⟨ρ', e3, o2, ps, y6, hd2, hg, hlen, rfl⟩ := forL_inv (tg := .n 6) (b := mExpr (mExtend 4 (mLc (mWalk k1 (mCons (mVar 6) mNil)) (.n 7) [7] (mTst asB (mOp oEq (mCall [0] 2 f_law_take (mCons (mVar 0) (mCons (mVar 5) mNil))) (mC (.int 0)))) (mTup (mCons (mVar 7) (mCons (mVar 6) mNil))))))
    (fun i ρ => ∃ o ps y6, Dr o ∧ GoodPs n ps ∧ ps.length ≤ i * n ∧ ρ = Sh o most n menu ps (some (on c)) y6 none none none none) (items := (List.range n).map dn) (ρ := Sh o1 most n menu [] (some (on c)) none none none none none) (by
      rintro i d ρ hdi ⟨o, ps, y6, hdo, hg, hl, rfl⟩
      obtain ⟨hi, rfl⟩ := map_at hdi
      have hv : (List.range n)[i] = i := by simp
      rw [List.length_range] at hi
      rw [hv]
      obtain ⟨os, ρ', e, o', qs, hdo', hq, hql, rfl, rfl⟩ := lc_inv (mi := mWalk k1 (mCons (mVar 6) mNil)) (j := 7) (c := mTst asB (mOp oEq (mCall [0] 2 f_law_take (mCons (mVar 0) (mCons (mVar 5) mNil))) (mC (.int 0)))) (e := mTup (mCons (mVar 7) (mCons (mVar 6) mNil))) (ρ0 := Sh o most n menu ps (some (on c)) (some (on i)) none none none none) (items := (List.range i).map dn)
        (fun k acc ρ => ∃ o' qs, Dr o' ∧ GoodPs n qs ∧ qs.length ≤ k ∧ acc = qs.map O.d ∧ ρ = Sh o' most n menu ps (some (on c)) (some (on i)) none none none none) (walk1 (var_d rfl) (by omega)) rfl (by
          rintro k d acc ρ hdk ⟨o', qs, hdo', hq, hql, rfl, rfl⟩
          obtain ⟨hk, rfl⟩ := map_at hdk
          have hv : (List.range i)[k] = k := by simp
          rw [List.length_range] at hk
          rw [hv]
          obtain ⟨r, o2, e, hr, hd2⟩ := take_at hdo' (j := 0) (m := mVar 5) (many := c) (ρ := Sh o' most n menu ps (some (on c)) (some (on i)) (some (on k)) none none none) rfl (var_d rfl) hc.1 (by omega)
          refine ⟨decide (r = 0), _, tst (op2 e rfl (oEq_n r 0)), fun _ => ⟨_, _, pair_ok rfl rfl, rfl, o2, qs ++ [.tuple [dn k, dn i]], hd2, good_app hq (good_one (by omega) hi), by simp; omega, by simp, rfl⟩, fun _ => ⟨rfl, o2, qs, hd2, hq, by omega, rfl, rfl⟩⟩)
        ⟨o, [], hdo, good_nil n, by simp, rfl, rfl⟩ (by
          rintro os ρ' ⟨o', qs, _, _, h, rfl, _⟩
          rw [List.length_map]
          rw [List.length_map, List.length_range] at h
          omega)
      rw [List.length_map, List.length_range] at hql
      refine ⟨_, _, rfl, .inl (expr_ok (extend_ok rfl rfl e (by have : i * n ≤ 20 * 20 := Nat.mul_le_mul (by omega) hn; omega))), o', ps ++ qs, some (on i), hdo', good_app hg hq, ?_, rfl⟩
      rw [List.length_append, Nat.add_mul]
      omega) ⟨o1, [], none, hd1, good_nil n, by simp, rfl⟩
  rw [List.length_map, List.length_range] at hlen
  exact ⟨o2, ps, _, _, _, _, _, _, seq_nx (set_ok e2) (for_ok (walk1 (var_d rfl) (by omega)) e3), hd2, hg, by have : n * n ≤ 20 * 20 := Nat.mul_le_mul hn hn; omega⟩
/-- pairs by a test upon data -/
theorem pairs_turn {most n menu : Nat} (hn : n ≤ 20) {o : O} (hd : Dr o) {c : Mb} {c5 l8 e9 c10 : Option O} {mi : Mi} {a : Nat} (ha : a < n) {items : List Nat} (hit : ∀ k ∈ items, k < n) (hil : items.length ≤ n) {ps : List PyData}
    (hm : mi (Sh o most n menu ps c5 none (some (on a)) l8 e9 c10) = .ok (items.map dn) (Sh o most n menu ps c5 none (some (on a)) l8 e9 c10))
    (hc : ∀ k, k ∈ items → ∀ o, Dr o → ∃ b o', Dr o' ∧ c (Sh o most n menu ps c5 (some (on k)) (some (on a)) l8 e9 c10) = .ok b (Sh o' most n menu ps c5 (some (on k)) (some (on a)) l8 e9 c10)) :
    ∃ o' qs, Dr o' ∧ GoodPs n qs ∧ qs.length ≤ n ∧ mLc mi (.n 6) [6] c (mTup (mCons (mVar 7) (mCons (mVar 6) mNil))) (Sh o most n menu ps c5 none (some (on a)) l8 e9 c10) = .ok (.o (.lst (qs.map .d))) (Sh o' most n menu ps c5 none (some (on a)) l8 e9 c10) := by
  obtain ⟨os, ρ', e, o', qs, hdo', hq, hql, rfl, rfl⟩ := lc_inv (mi := mi) (j := 6) (c := c) (e := mTup (mCons (mVar 7) (mCons (mVar 6) mNil))) (ρ0 := Sh o most n menu ps c5 none (some (on a)) l8 e9 c10) (items := items.map dn)
    (fun k acc ρ => ∃ o' qs, Dr o' ∧ GoodPs n qs ∧ qs.length ≤ k ∧ acc = qs.map O.d ∧ ρ = Sh o' most n menu ps c5 none (some (on a)) l8 e9 c10) hm rfl (by
      rintro k d acc ρ hdk ⟨o', qs, hdo', hq, hql, rfl, rfl⟩
      obtain ⟨hk, rfl⟩ := map_at hdk
      obtain ⟨b, o2, hd2, e⟩ := hc items[k] (List.getElem_mem hk) o' hdo'
      refine ⟨b, _, e, fun _ => ⟨_, _, pair_ok rfl rfl, rfl, o2, qs ++ [.tuple [dn a, dn items[k]]], hd2, good_app hq (good_one ha (hit _ (List.getElem_mem hk))), by simp; omega, by simp, rfl⟩, fun _ => ⟨rfl, o2, qs, hd2, hq, by omega, rfl, rfl⟩⟩)
    ⟨o, [], hd, good_nil n, by simp, rfl, rfl⟩ (by
      rintro os ρ' ⟨o', qs, _, _, h, rfl, _⟩
      rw [List.length_map]
      rw [List.length_map] at h
      omega)
  rw [List.length_map] at hql
  exact ⟨o', qs, hdo', hq, by omega, e⟩
/-- for x in range(n): pairs.extend([..]) -/
theorem pairs_loop {most n menu : Nat} (hn : n ≤ 20) {o : O} (hd : Dr o) {c : Mb} {c5 x7 l8 e9 c10 : Option O} {mi : Mi} (its : Nat → List Nat) (hit : ∀ a, a < n → ∀ k ∈ its a, k < n) (hil : ∀ a, a < n → (its a).length ≤ n)
    (hm : ∀ o ps a, a < n → mi (Sh o most n menu ps c5 none (some (on a)) l8 e9 c10) = .ok ((its a).map dn) (Sh o most n menu ps c5 none (some (on a)) l8 e9 c10))
    (hc : ∀ ps a k, a < n → k ∈ its a → ∀ o, Dr o → ∃ b o', Dr o' ∧ c (Sh o most n menu ps c5 (some (on k)) (some (on a)) l8 e9 c10) = .ok b (Sh o' most n menu ps c5 (some (on k)) (some (on a)) l8 e9 c10)) :
    Good most n menu (mFor (mWalk k1 (mCons (mVar 2) mNil)) (.n 7) (mExpr (mExtend 4 (mLc mi (.n 6) [6] c (mTup (mCons (mVar 7) (mCons (mVar 6) mNil)))))) (Sh o most n menu [] c5 none x7 l8 e9 c10)) := by
  obtain ⟨ρ', e3, o2, ps, x7', hd2, hg, hlen, rfl⟩ := forL_inv (tg := .n 7) (b := mExpr (mExtend 4 (mLc mi (.n 6) [6] c (mTup (mCons (mVar 7) (mCons (mVar 6) mNil))))))
    (fun i ρ => ∃ o ps x7, Dr o ∧ GoodPs n ps ∧ ps.length ≤ i * n ∧ ρ = Sh o most n menu ps c5 none x7 l8 e9 c10) (items := (List.range n).map dn) (ρ := Sh o most n menu [] c5 none x7 l8 e9 c10) (by
      rintro i d ρ hdi ⟨o, ps, x7, hdo, hg, hl, rfl⟩
      obtain ⟨hi, rfl⟩ := map_at hdi
      have hv : (List.range n)[i] = i := by simp
      rw [List.length_range] at hi
      rw [hv]
      obtain ⟨o', qs, hdo', hq, hql, e⟩ := pairs_turn hn hdo (c := c) (mi := mi) hi (hit i hi) (hil i hi) (hm o ps i hi) (fun k hk o ho => hc ps i k hi hk o ho)
      refine ⟨_, _, rfl, .inl (expr_ok (extend_ok rfl rfl e (by have : i * n ≤ 20 * 20 := Nat.mul_le_mul (by omega) hn; omega))), o', ps ++ qs, some (on i), hdo', good_app hg hq, ?_, rfl⟩
      rw [List.length_append, Nat.add_mul]
      omega) ⟨o, [], x7, hd, good_nil n, by simp, rfl⟩
  rw [List.length_map, List.length_range] at hlen
  exact ⟨o2, ps, _, _, _, _, _, _, for_ok (walk1 (var_d rfl) (by omega)) e3, hd2, hg, by have : n * n ≤ 20 * 20 := Nat.mul_le_mul hn hn; omega⟩
theorem seq_good {a b : MS} {ρ ρ1 : FL.Env} {most n menu : Nat} (h : a ρ = .nx ρ1) (h2 : Good most n menu (b ρ1)) : Good most n menu (mSeq a b ρ) := by
  rw [seq_nx h rfl]
  exact h2
theorem ix_l {l : List Nat} {i : Nat} (h : i < l.length) : oIx (ln l) (dn i) = some (dn (l.getD i 0)) := by
  rw [oIx_l, map_get l i h, getD_at h]
theorem branch2 {o : O} (hd : Dr o) {most n menu : Nat} (hn : n ≤ 20) : Good most n menu (mSeq (mSet 8 (mFrz (mLc (mWalk k1 (mCons (mVar 2) mNil)) (.n 7) [7] mYes (mCall [0] 2 f_law_take (mCons (mVar 0) (mCons (mC (.int 4)) mNil))))))
  (mFor (mWalk k1 (mCons (mVar 2) mNil)) (.n 7)
  (mExpr (mExtend 4 (mLc (mWalk k1 (mCons (mVar 2) mNil)) (.n 6) [6] (mTst asB (mOp oLt (mOp oIx (mVar 8) (mVar 7)) (mOp oIx (mVar 8) (mVar 6)))) (mTup (mCons (mVar 7) (mCons (mVar 6) mNil))))))) (Sh o most n menu [] none none none none none none)) := by
  obtain ⟨os, ρ', e, o', l, hd', rfl, hl, rfl⟩ := lc_inv (mi := mWalk k1 (mCons (mVar 2) mNil)) (j := 7) (c := mYes) (e := mCall [0] 2 f_law_take (mCons (mVar 0) (mCons (mC (.int 4)) mNil))) (ρ0 := Sh o most n menu [] none none none none none none) (items := (List.range n).map dn)
    (fun k acc ρ => ∃ o' l, Dr o' ∧ acc = l.map on ∧ l.length = k ∧ ρ = Sh o' most n menu [] none none none none none none) (walk1 (var_d rfl) (by omega)) rfl (by
      rintro k d acc ρ hdk ⟨o', l, hdo', rfl, hl, rfl⟩
      obtain ⟨hk, rfl⟩ := map_at hdk
      obtain ⟨r, o2, e, hr, hd2⟩ := take_at hdo' (j := 0) (m := mC (.int 4)) (many := 4) (ρ := Sh o' most n menu [] none none (some (on (List.range n)[k])) none none none) rfl rfl (by omega) (by omega)
      exact ⟨true, _, rfl, fun _ => ⟨_, _, e, rfl, o2, l ++ [r], hd2, by simp, by simp; omega, rfl⟩, fun z => by cases z⟩)
    ⟨o, [], hd, rfl, rfl, rfl⟩ (by
      rintro os ρ' ⟨o', l, _, rfl, h, _⟩
      rw [List.length_map, h, List.length_map, List.length_range]
      omega)
  rw [List.length_map, List.length_range] at hl
  refine seq_good (set_ok (frz_on e)) ?_
  refine pairs_loop hn hd' (fun _ => List.range n) (fun a ha k hk => List.mem_range.mp hk) (fun a ha => by simp) (fun o ps a ha => walk1 (var_d rfl) (by omega)) (fun ps a k ha hk o ho => ?_)
  have hk := List.mem_range.mp hk
  exact ⟨_, o, ho, tst (op2 (op2 (var_d rfl) (var_d rfl) (ix_l (l := l) (by omega))) (op2 (var_d rfl) (var_d rfl) (ix_l (l := l) (by omega))) (oLt_n _ _))⟩
theorem branch4 {o : O} (hd : Dr o) {most n menu : Nat} (hn : n ≤ 20) : Good most n menu (mSeq (mSet 9 (mFrz (mLc (mWalk k1 (mCons (mVar 2) mNil)) (.n 7) [7] mYes (mFrz (mCallL lSortI (mCons (mLstD (mCons (mCall [0] 2 f_law_take (mCons (mVar 0) (mCons (mC (.int 9)) mNil))) (mCons (mCall [0] 2 f_law_take (mCons (mVar 0) (mCons (mC (.int 9)) mNil))) mNil))) mNil))))))
  (mFor (mWalk k1 (mCons (mVar 2) mNil)) (.n 7)
  (mExpr (mExtend 4 (mLc (mWalk k1 (mCons (mVar 2) mNil)) (.n 6) [6] (mTst asB (mOp oLt (mOp oIx (mOp oIx (mVar 9) (mVar 7)) (mC (.int 1))) (mOp oIx (mOp oIx (mVar 9) (mVar 6)) (mC (.int 0))))) (mTup (mCons (mVar 7) (mCons (mVar 6) mNil))))))) (Sh o most n menu [] none none none none none none)) := by
  obtain ⟨os, ρ', e, o', l, hd', rfl, hl, rfl⟩ := lc_inv (mi := mWalk k1 (mCons (mVar 2) mNil)) (j := 7) (c := mYes) (e := mFrz (mCallL lSortI (mCons (mLstD (mCons (mCall [0] 2 f_law_take (mCons (mVar 0) (mCons (mC (.int 9)) mNil))) (mCons (mCall [0] 2 f_law_take (mCons (mVar 0) (mCons (mC (.int 9)) mNil))) mNil))) mNil))) (ρ0 := Sh o most n menu [] none none none none none none) (items := (List.range n).map dn)
    (fun k acc ρ => ∃ (o' : O) (l : List (Nat × Nat)), Dr o' ∧ acc = l.map (fun z => O.d (ln [z.1, z.2])) ∧ l.length = k ∧ ρ = Sh o' most n menu [] none none none none none none) (walk1 (var_d rfl) (by omega)) rfl (by
      rintro k d acc ρ hdk ⟨o', l, hdo', rfl, hl, rfl⟩
      obtain ⟨hk, rfl⟩ := map_at hdk
      obtain ⟨r, o2, e, hr, hd2⟩ := take_at hdo' (j := 0) (m := mC (.int 9)) (many := 9) (ρ := Sh o' most n menu [] none none (some (on (List.range n)[k])) none none none) rfl rfl (by omega) (by omega)
      obtain ⟨r2, o3, e2, hr2, hd3⟩ := take_at hd2 (j := 0) (m := mC (.int 9)) (many := 9) (ρ := Sh o2 most n menu [] none none (some (on (List.range n)[k])) none none none) rfl rfl (by omega) (by omega)
      have es : ∃ z : Nat × Nat, lSortI [ln [r, r2]] = some [dn z.1, dn z.2] := by
        by_cases h : r ≤ r2
        · refine ⟨(r, r2), ?_⟩
          show some (ofInts (insI (r : Int) [(r2 : Int)])) = _
          unfold insI
          rw [if_pos (by omega)]
          rfl
        · refine ⟨(r2, r), ?_⟩
          show some (ofInts (insI (r : Int) [(r2 : Int)])) = _
          unfold insI
          rw [if_neg (by omega)]
          rfl
      obtain ⟨z, es⟩ := es
      have e4 : mCallL lSortI (mCons (mLstD (mCons (mCall [0] 2 f_law_take (mCons (mVar 0) (mCons (mC (.int 9)) mNil))) (mCons (mCall [0] 2 f_law_take (mCons (mVar 0) (mCons (mC (.int 9)) mNil))) mNil))) mNil) (Sh o' most n menu [] none none (some (on (List.range n)[k])) none none none) = .ok (.o (.lst ([dn z.1, dn z.2].map .d))) (Sh o3 most n menu [] none none (some (on (List.range n)[k])) none none none) := by
        have e5 := lstD_ok (xs := [.o (on r), .o (on r2)]) (ys := [dn r, dn r2]) (ms_cons e (ms_cons e2 ms_nil)) rfl rfl
        exact callL_ok e5 es
      exact ⟨true, _, rfl, fun _ => ⟨_, _, frz_d e4, rfl, o3, l ++ [z], hd3, by simp, by simp; omega, rfl⟩, fun z => by cases z⟩)
    ⟨o, [], hd, rfl, rfl, rfl⟩ (by
      rintro os ρ' ⟨o', l, _, rfl, h, _⟩
      rw [List.length_map, h, List.length_map, List.length_range]
      omega)
  rw [List.length_map, List.length_range] at hl
  have e0 : (l.map fun z => O.d (ln [z.1, z.2])) = (l.map fun z => ln [z.1, z.2]).map O.d := by rw [List.map_map]; rfl
  rw [e0] at e
  refine seq_good (set_ok (frz_d e)) ?_
  have at9 : ∀ k, k < n → oIx (.list (l.map fun z => ln [z.1, z.2])) (dn k) = some (ln [(l.getD k (0, 0)).1, (l.getD k (0, 0)).2]) := fun k hk => by
    rw [oIx_l, List.getElem?_map, List.getElem?_eq_getElem (by omega)]
    simp [List.getD_eq_getElem?_getD, hl, hk]
  refine pairs_loop hn hd' (fun _ => List.range n) (fun a ha k hk => List.mem_range.mp hk) (fun a ha => by simp) (fun o ps a ha => walk1 (var_d rfl) (by omega)) (fun ps a k ha hk o ho => ?_)
  have hk := List.mem_range.mp hk
  exact ⟨_, o, ho, tst (op2 (op2 (op2 (var_d rfl) (var_d rfl) (at9 a ha)) rfl (ix_l (l := [_, _]) (i := 1) (by simp))) (op2 (op2 (var_d rfl) (var_d rfl) (at9 k hk)) rfl (ix_l (l := [_, _]) (i := 0) (by simp))) (oLt_n _ _))⟩
theorem branch5 {o : O} (hd : Dr o) {most n menu : Nat} (hn : n ≤ 20) : Good most n menu (mSeq (mSet 10 (mCall [0] 2 f_law_take (mCons (mVar 0) (mCons (mOp oAdd (mVar 2) (mC (.int 1))) mNil))))
  (mFor (mWalk k1 (mCons (mVar 2) mNil)) (.n 7)
  (mExpr (mExtend 4 (mLc (mWalk k2 (mCons (mOp oAdd (mVar 7) (mC (.int 1))) (mCons (mVar 2) mNil))) (.n 6) [6] (mAndT (mTst asB (mOp oEq (mOp oLt (mVar 7) (mVar 10)) (mOp oLt (mVar 6) (mVar 10)))) (mTst asB (mOp oEq (mCall [0] 2 f_law_take (mCons (mVar 0) (mCons (mC (.int 2)) mNil))) (mC (.int 0))))) (mTup (mCons (mVar 7) (mCons (mVar 6) mNil))))))) (Sh o most n menu [] none none none none none none)) := by
  obtain ⟨r, o2, e, hr, hd2⟩ := take_at hd (j := 0) (m := mOp oAdd (mVar 2) (mC (.int 1))) (many := n + 1) (ρ := Sh o most n menu [] none none none none none none) rfl (op2 (var_d rfl) rfl (oAdd_n n 1)) (by omega) (by omega)
  refine seq_good (set_ok e) ?_
  refine pairs_loop hn hd2 (fun a => (List.range (n - (a + 1))).map fun i => a + 1 + i) (fun a ha k hk => ?_) (fun a ha => by simp) (fun o ps a ha => ?_) (fun ps a k ha hk o ho => ?_)
  · obtain ⟨i, hi, rfl⟩ := List.mem_map.mp hk
    have := List.mem_range.mp hi
    omega
  · rw [List.map_map]
    exact walk_gen2 (op2 (var_d rfl) rfl (oAdd_n a 1)) (var_d rfl) (k2_n (a + 1) n (by omega) (by omega))
  · have h1 : mTst asB (mOp oEq (mOp oLt (mVar 7) (mVar 10)) (mOp oLt (mVar 6) (mVar 10))) (Sh o most n menu ps none (some (on k)) (some (on a)) none none (some (on r))) = .ok (decide (a < r) == decide (k < r)) (Sh o most n menu ps none (some (on k)) (some (on a)) none none (some (on r))) :=
      tst (op2 (op2 (var_d rfl) (var_d rfl) (oLt_n a r)) (op2 (var_d rfl) (var_d rfl) (oLt_n k r)) (oEqB _ _))
    cases hb : (decide (a < r) == decide (k < r)) with
    | false =>
      rw [hb] at h1
      exact ⟨false, o, ho, and_ff h1⟩
    | true =>
      rw [hb] at h1
      obtain ⟨r3, o3, e3, hr3, hd3⟩ := take_at ho (j := 0) (m := mC (.int 2)) (many := 2) (ρ := Sh o most n menu ps none (some (on k)) (some (on a)) none none (some (on r))) rfl rfl (by omega) (by omega)
      exact ⟨_, o3, hd3, and_tt h1 (tst (op2 e3 rfl (oEq_n r3 0)))⟩
end K50
end
section
set_option Elab.async false
set_option linter.all false
set_option maxRecDepth 100000
set_option autoImplicit false
set_option exponentiation.threshold 2000
namespace K50
open PySem FL
def ev0 (n : Nat) : List Nat := (List.range n).filter fun k => decide (k % 2 = 0) && decide (k + 1 < n)
def ev2 (n : Nat) : List Nat := (List.range n).filter fun k => decide (k % 2 = 0) && decide (2 ≤ k)
theorem ev0_spec : ∀ n : Nat, n ≤ 20 → k3 [dn 0, .int ((n : Int) - 1), dn 2] = some ((ev0 n).map dn)
  | 0, _ => rfl
  | 1, _ => rfl
  | 2, _ => rfl
  | 3, _ => rfl
  | 4, _ => rfl
  | 5, _ => rfl
  | 6, _ => rfl
  | 7, _ => rfl
  | 8, _ => rfl
  | 9, _ => rfl
  | 10, _ => rfl
  | 11, _ => rfl
  | 12, _ => rfl
  | 13, _ => rfl
  | 14, _ => rfl
  | 15, _ => rfl
  | 16, _ => rfl
  | 17, _ => rfl
  | 18, _ => rfl
  | 19, _ => rfl
  | 20, _ => rfl
  | n + 21, h => by omega
theorem ev2_spec : ∀ n : Nat, n ≤ 20 → k3 [dn 2, dn n, dn 2] = some ((ev2 n).map dn)
  | 0, _ => rfl
  | 1, _ => rfl
  | 2, _ => rfl
  | 3, _ => rfl
  | 4, _ => rfl
  | 5, _ => rfl
  | 6, _ => rfl
  | 7, _ => rfl
  | 8, _ => rfl
  | 9, _ => rfl
  | 10, _ => rfl
  | 11, _ => rfl
  | 12, _ => rfl
  | 13, _ => rfl
  | 14, _ => rfl
  | 15, _ => rfl
  | 16, _ => rfl
  | 17, _ => rfl
  | 18, _ => rfl
  | 19, _ => rfl
  | 20, _ => rfl
  | n + 21, h => by omega
theorem branch6 {o : O} (hd : Dr o) {most n menu : Nat} (hn : n ≤ 20) : Good most n menu (mSet 4 (mCat (mLc (mWalk k3 (mCons (mC (.int 0)) (mCons (mOp oSub (mVar 2) (mC (.int 1))) (mCons (mC (.int 2)) mNil)))) (.n 7) [7] mYes (mTup (mCons (mVar 7) (mCons (mOp oAdd (mVar 7) (mC (.int 1))) mNil)))) (mLc (mWalk k3 (mCons (mC (.int 2)) (mCons (mVar 2) (mCons (mC (.int 2)) mNil)))) (.n 7) [7] mYes (mTup (mCons (mVar 7) (mCons (mOp oSub (mVar 7) (mC (.int 1))) mNil))))) (Sh o most n menu [] none none none none none none)) := by
  have l0 : (ev0 n).length ≤ n := Nat.le_trans (List.length_filter_le _ _) (by simp)
  have l2 : (ev2 n).length ≤ n := Nat.le_trans (List.length_filter_le _ _) (by simp)
  have m0 : ∀ k ∈ ev0 n, k + 1 < n := fun k hk => by
    have := (List.mem_filter.mp hk).2
    simp at this
    exact this.2
  have m2 : ∀ k ∈ ev2 n, k < n ∧ 2 ≤ k := fun k hk => by
    obtain ⟨h1, h2⟩ := List.mem_filter.mp hk
    simp at h2
    exact ⟨List.mem_range.mp h1, h2.2⟩
  have h1 := lc_map (mi := mWalk k3 (mCons (mC (.int 0)) (mCons (mOp oSub (mVar 2) (mC (.int 1))) (mCons (mC (.int 2)) mNil)))) (j := 7) (e := mTup (mCons (mVar 7) (mCons (mOp oAdd (mVar 7) (mC (.int 1))) mNil))) (ρ := Sh o most n menu [] none none none none none none) (l := ev0 n) (fun k => .tuple [dn k, dn (k + 1)])
    (walk_gen3 (x := dn 0) (y := .int ((n : Int) - 1)) (z := dn 2) rfl (op2 (var_d rfl) rfl rfl) rfl (ev0_spec n hn)) rfl (fun k hk => tup_ok (xs := [.o (on k), .o (on (k + 1))]) (ms_cons (var_d rfl) (ms_cons (op2 (var_d rfl) rfl (oAdd_n k 1)) ms_nil)) rfl rfl) (by omega)
  have h2 := lc_map (mi := mWalk k3 (mCons (mC (.int 2)) (mCons (mVar 2) (mCons (mC (.int 2)) mNil)))) (j := 7) (e := mTup (mCons (mVar 7) (mCons (mOp oSub (mVar 7) (mC (.int 1))) mNil))) (ρ := Sh o most n menu [] none none none none none none) (l := ev2 n) (fun k => .tuple [dn k, dn (k - 1)])
    (walk_gen3 (x := dn 2) (y := dn n) (z := dn 2) rfl (var_d rfl) rfl (ev2_spec n hn)) rfl (fun k hk => tup_ok (xs := [.o (on k), .o (on (k - 1))]) (ms_cons (var_d rfl) (ms_cons (op2 (var_d rfl) rfl (oSub_n k 1 (by have := m2 k hk; omega))) ms_nil)) rfl rfl) (by omega)
  have d1 : ((ev0 n).map fun k => O.d (.tuple [dn k, dn (k + 1)])) = ((ev0 n).map fun k => PyData.tuple [dn k, dn (k + 1)]).map O.d := by rw [List.map_map]; rfl
  have d2 : ((ev2 n).map fun k => O.d (.tuple [dn k, dn (k - 1)])) = ((ev2 n).map fun k => PyData.tuple [dn k, dn (k - 1)]).map O.d := by rw [List.map_map]; rfl
  rw [d1] at h1
  rw [d2] at h2
  refine ⟨o, _, _, _, _, _, _, _, set_ok (cat_ok h1 h2 (by simp; omega)), hd, fun d hd => ?_, by simp; omega⟩
  rcases List.mem_append.mp hd with q | q
  · obtain ⟨k, hk, rfl⟩ := List.mem_map.mp q
    have := m0 k hk
    exact ⟨k, k + 1, rfl, by omega, this⟩
  · obtain ⟨k, hk, rfl⟩ := List.mem_map.mp q
    have := m2 k hk
    exact ⟨k, k - 1, rfl, this.1, by omega⟩
theorem good_if_t {t : Mb} {a b : MS} {ρ : FL.Env} {most n menu : Nat} (h : t ρ = .ok true ρ) (g : Good most n menu (a ρ)) : Good most n menu (mIfS t a b ρ) := by
  rw [if_t h rfl]
  exact g
theorem good_if_f {t : Mb} {a b : MS} {ρ : FL.Env} {most n menu : Nat} (h : t ρ = .ok false ρ) (g : Good most n menu (b ρ)) : Good most n menu (mIfS t a b ρ) := by
  rw [if_f h rfl]
  exact g
theorem chain {A1 A2 A3 A4 A5 A6 : MS} {o2 : O} {most n menu : Nat} (hm : most ≤ 5) (g1 : Good most n menu (A1 (Sh o2 most n menu [] none none none none none none))) (g2 : Good most n menu (A2 (Sh o2 most n menu [] none none none none none none))) (g4 : Good most n menu (A4 (Sh o2 most n menu [] none none none none none none))) (g5 : Good most n menu (A5 (Sh o2 most n menu [] none none none none none none))) (g6 : Good most n menu (A6 (Sh o2 most n menu [] none none none none none none))) :
    Good most n menu (mIfS (mTst asB (mOp oLt (mVar 3) (mC (.int 2)))) A1 (mIfS (mTst asB (mOp oEq (mVar 3) (mC (.int 2)))) A2 (mIfS (mAndT (mTst asB (mOp oEq (mVar 3) (mC (.int 3)))) (mTst asB (mOp oGe (mVar 1) (mC (.int 6))))) A3 (mIfS (mTst asB (mOp oEq (mVar 3) (mC (.int 4)))) A4 (mIfS (mTst asB (mOp oEq (mVar 3) (mC (.int 5)))) A5 A6)))) (Sh o2 most n menu [] none none none none none none)) := by
  by_cases h : menu < 2
  · have t := oLt_n menu 2
    rw [show decide (menu < 2) = true from decide_eq_true h] at t
    exact good_if_t (tst (op2 (var_d rfl) rfl t)) g1
  have t := oLt_n menu 2
  rw [show decide (menu < 2) = false from decide_eq_false h] at t
  refine good_if_f (tst (op2 (var_d rfl) rfl t)) ?_
  by_cases h2 : menu = 2
  · have t := oEq_n menu 2
    rw [show decide (menu = 2) = true from decide_eq_true h2] at t
    exact good_if_t (tst (op2 (var_d rfl) rfl t)) g2
  have t := oEq_n menu 2
  rw [show decide (menu = 2) = false from decide_eq_false h2] at t
  refine good_if_f (tst (op2 (var_d rfl) rfl t)) ?_
  have t3 : mAndT (mTst asB (mOp oEq (mVar 3) (mC (.int 3)))) (mTst asB (mOp oGe (mVar 1) (mC (.int 6)))) (Sh o2 most n menu [] none none none none none none) = .ok false (Sh o2 most n menu [] none none none none none none) := by
    have t := oEq_n menu 3
    by_cases h3 : menu = 3
    · rw [show decide (menu = 3) = true from decide_eq_true h3] at t
      have t2 := oGe_n most 6
      rw [show decide (6 ≤ most) = false from decide_eq_false (by omega)] at t2
      exact and_tt (tst (op2 (var_d rfl) rfl t)) (tst (op2 (var_d rfl) rfl t2))
    · rw [show decide (menu = 3) = false from decide_eq_false h3] at t
      exact and_ff (tst (op2 (var_d rfl) rfl t))
  refine good_if_f t3 ?_
  by_cases h4 : menu = 4
  · have t := oEq_n menu 4
    rw [show decide (menu = 4) = true from decide_eq_true h4] at t
    exact good_if_t (tst (op2 (var_d rfl) rfl t)) g4
  have t := oEq_n menu 4
  rw [show decide (menu = 4) = false from decide_eq_false h4] at t
  refine good_if_f (tst (op2 (var_d rfl) rfl t)) ?_
  by_cases h5 : menu = 5
  · have t := oEq_n menu 5
    rw [show decide (menu = 5) = true from decide_eq_true h5] at t
    exact good_if_t (tst (op2 (var_d rfl) rfl t)) g5
  have t := oEq_n menu 5
  rw [show decide (menu = 5) = false from decide_eq_false h5] at t
  refine good_if_f (tst (op2 (var_d rfl) rfl t)) ?_
  exact g6

theorem order_spec {o : O} (hd : Dr o) {most : Nat} (hm : most ≤ 5) : ∃ us n o', f_law_order [o, on most] = .ok (.d (tn us)) [o'] ∧ Form us n ∧ n ≤ most ∧ Dr o' := by
  obtain ⟨n, o1, e1, hn, hd1⟩ := take_at hd (j := 0) (m := mOp oAdd (mVar 1) (mC (.int 1))) (many := most + 1) (ρ := [some o, some (on most), none, none, none, none, none, none, none, none, none]) rfl (op2 (var_d rfl) rfl (oAdd_n most 1)) (by omega) (by omega)
  obtain ⟨menu, o2, e2, hmenu, hd2⟩ := take_at hd1 (j := 0) (m := mC (.int 7)) (many := 7) (ρ := [some o1, some (on most), some (on n), none, none, none, none, none, none, none, none]) rfl rfl (by omega) (by omega)
  have body := chain (A3 := (mSeq (mSet 2 (mC (.int 6)))
  (mFor (mWalk k1 (mCons (mC (.int 3)) mNil)) (.n 7)
  (mExpr (mExtend 4 (mLc (mWalk k1 (mCons (mC (.int 3)) mNil)) (.n 6) [6] (mTst asB (mOp oNe (mVar 7) (mVar 6))) (mTup (mCons (mVar 7) (mCons (mOp oAdd (mC (.int 3)) (mVar 6)) mNil))))))))) (n := n) (menu := menu) hm (branch1 hd2 (by omega)) (branch2 hd2 (by omega)) (branch4 hd2 (by omega)) (branch5 hd2 (by omega)) (branch6 hd2 (by omega))
  obtain ⟨o3, ps, c5, y6, x7, l8, e9, c10, e3, hd3, hg, hl⟩ := body
  obtain ⟨mat, hs, e4⟩ := close_spec n (by omega) ps hg
  obtain ⟨p, o4, e5, hp, hd4⟩ := shuffled_spec hd3 (n := n) (by omega)
  have hf := ofMat_form n mat
  obtain ⟨xs3, rfl⟩ := hd3.own
  have e6 : mCall [] 2 f_law_close (mCons (mVar 2) (mCons (mFz 4) mNil)) (Sh (ol xs3) most n menu ps c5 y6 x7 l8 e9 c10) = .ok (.o (.d (tn (ofMat n mat)))) ((Sh (ol xs3) most n menu ps c5 y6 x7 l8 e9 c10).set 4 (some (.d (.list ps)))) := call2 (var_d rfl) (fz_ok rfl) e4
  have e7 : mCall [0] 2 f_law_shuffled (mCons (mVar 0) (mCons (mVar 2) mNil)) ((Sh (ol xs3) most n menu ps c5 y6 x7 l8 e9 c10).set 4 (some (.d (.list ps)))) = .ok (.o (.tf (p.map dn))) (((Sh (ol xs3) most n menu ps c5 y6 x7 l8 e9 c10).set 4 (some (.d (.list ps)))).set 0 (some o4)) := callD rfl (own_var rfl) (var_d rfl) e5
  have e8 := named_spec (ofMat n mat) p (by rw [hf.1]; omega) (by rw [hf.1]; exact hp) (by rw [hf.1]; exact hf.2)
  refine ⟨named (ofMat n mat) p, n, o4, ?_, named_form hf hp, by omega, hd4⟩
  exact fn_rt (seq_nx (set_ok e1) (seq_nx (set_ok e2) (seq_nx (set_ok rfl) (seq_nx e3 (ret_ok (call2 e6 e7 e8)))))) rfl
end K50
end
section
set_option Elab.async false
set_option linter.all false
set_option maxRecDepth 100000
set_option autoImplicit false
set_option exponentiation.threshold 2000
namespace K50
open PySem FL
/-! ### lattices -/
def le (us : List Nat) (x y : Nat) : Bool := (us.getD x 0).testBit y
structure Lat (us : List Nat) : Prop where
  pos : 0 < us.length
  bits : ∀ x, x < us.length → us.getD x 0 < 2 ^ us.length
  refl : ∀ x, x < us.length → le us x x = true
  trans : ∀ x y z, x < us.length → y < us.length → z < us.length → le us x y = true → le us y z = true → le us x z = true
  anti : ∀ x y, x < us.length → y < us.length → le us x y = true → le us y x = true → x = y
  join : ∀ x y, x < us.length → y < us.length → ∃ z, z < us.length ∧ le us x z = true ∧ le us y z = true ∧ ∀ w, w < us.length → le us x w = true → le us y w = true → le us z w = true
  meet : ∀ x y, x < us.length → y < us.length → ∃ z, z < us.length ∧ le us z x = true ∧ le us z y = true ∧ ∀ w, w < us.length → le us w x = true → le us w y = true → le us w z = true
theorem all_range {n : Nat} {p : Nat → Bool} (h : (List.range n).all p = true) : ∀ x, x < n → p x = true := fun x hx => List.all_eq_true.mp h x (List.mem_range.mpr hx)
theorem any_range {n : Nat} {p : Nat → Bool} (h : (List.range n).any p = true) : ∃ x, x < n ∧ p x = true := by
  obtain ⟨x, hx, hp⟩ := List.any_eq_true.mp h
  exact ⟨x, List.mem_range.mp hx, hp⟩
/-- tried out -/
def latB (us : List Nat) : Bool :=
  let n := us.length
  let r := List.range n
  Nat.blt 0 n && r.all (fun x => Nat.blt (us.getD x 0) (2 ^ n)) && r.all (fun x => le us x x) &&
  r.all (fun x => r.all fun y => r.all fun z => !(le us x y && le us y z) || le us x z) &&
  r.all (fun x => r.all fun y => !(le us x y && le us y x) || Nat.beq x y) &&
  r.all (fun x => r.all fun y => r.any fun z => le us x z && (le us y z && r.all fun w => !(le us x w && le us y w) || le us z w)) &&
  r.all (fun x => r.all fun y => r.any fun z => le us z x && (le us z y && r.all fun w => !(le us w x && le us w y) || le us w z))
theorem imp_of {a b c : Bool} (h : (!(a && b) || c) = true) (ha : a = true) (hb : b = true) : c = true := by
  subst ha hb
  simpa using h
theorem lat_of {us : List Nat} (h : latB us = true) : Lat us := by
  unfold latB at h
  simp only [Bool.and_eq_true] at h
  obtain ⟨⟨⟨⟨⟨⟨h1, h2⟩, h3⟩, h4⟩, h5⟩, h6⟩, h7⟩ := h
  refine ⟨by simpa [Nat.blt_eq] using h1, fun x hx => by simpa [Nat.blt_eq] using all_range h2 x hx, all_range h3, fun x y z hx hy hz a b => imp_of (all_range (all_range (all_range h4 x hx) y hy) z hz) a b, fun x y hx hy a b => ?_, fun x y hx hy => ?_, fun x y hx hy => ?_⟩
  · exact Nat.eq_of_beq_eq_true (imp_of (all_range (all_range h5 x hx) y hy) a b)
  · obtain ⟨z, hz, hp⟩ := any_range (all_range (all_range h6 x hx) y hy)
    rw [Bool.and_eq_true, Bool.and_eq_true] at hp
    exact ⟨z, hz, hp.1, hp.2.1, fun w hw a b => imp_of (all_range hp.2.2 w hw) a b⟩
  · obtain ⟨z, hz, hp⟩ := any_range (all_range (all_range h7 x hx) y hy)
    rw [Bool.and_eq_true, Bool.and_eq_true] at hp
    exact ⟨z, hz, hp.1, hp.2.1, fun w hw a b => imp_of (all_range hp.2.2 w hw) a b⟩
/-! new names -/
theorem idx_of_get {p : List Nat} (nd : p.Nodup) {y : Nat} (hy : y < p.length) : idxN (p[y]) p = y := by
  obtain ⟨h1, h2⟩ := idxN_get p[y] (List.getElem_mem hy)
  exact (List.getElem_inj nd).mp h2
theorem named_le {us p : List Nat} {n : Nat} (h : Form us n) (hp : p.Perm (List.range n)) {x z : Nat} (hx : x < n) (hz : z < n) : le (named us p) x z = le us (idxN x p) (idxN z p) := by
  have hpl : p.length = n := by rw [hp.length_eq, List.length_range]
  have nd : p.Nodup := hp.nodup_iff.mpr List.nodup_range
  have zm : z ∈ p := hp.mem_iff.mpr (List.mem_range.mpr hz)
  have xm : x ∈ p := hp.mem_iff.mpr (List.mem_range.mpr hx)
  obtain ⟨hi, he⟩ := idxN_get z zm
  obtain ⟨hxi, _⟩ := idxN_get x xm
  unfold le
  rw [getD_at (by simp [named, h.1]; exact hx)]
  simp only [named, List.getElem_map, List.getElem_range]
  rw [testBit_orL]
  cases hb : (us.getD (idxN x p) 0).testBit (idxN z p) with
  | true =>
    apply decide_eq_true
    refine List.mem_map.mpr ⟨idxN z p, mem_bl.mpr hb, ?_⟩
    rw [getD_at hi, he]
  | false =>
    apply decide_eq_false
    intro hm
    obtain ⟨y, hy, e⟩ := List.mem_map.mp hm
    have hy2 := mem_bl.mp hy
    have hyn : y < n := by
      have hu := h.2 (idxN x p) (by omega)
      rw [bl_eq hu] at hy
      exact (mem_pos.mp hy).1
    rw [getD_at (by omega)] at e
    have := idx_of_get nd (y := y) (by omega)
    rw [e] at this
    rw [this] at hb
    rw [hb] at hy2
    cases hy2
theorem named_lat {us p : List Nat} (h : Lat us) (hp : p.Perm (List.range us.length)) : Lat (named us p) := by
  have hf : Form us us.length := ⟨rfl, h.bits⟩
  have hn : (named us p).length = us.length := (named_form hf hp).1
  have hpl : p.length = us.length := by rw [hp.length_eq, List.length_range]
  have nd : p.Nodup := hp.nodup_iff.mpr List.nodup_range
  have L : ∀ {x z}, x < us.length → z < us.length → le (named us p) x z = le us (idxN x p) (idxN z p) := fun hx hz => named_le hf hp hx hz
  have I : ∀ {x}, x < us.length → idxN x p < us.length := fun hx => by
    obtain ⟨h, _⟩ := idxN_get _ (hp.mem_iff.mpr (List.mem_range.mpr hx))
    omega
  -- every place is a name's
  have S : ∀ {y}, y < us.length → ∃ x, x < us.length ∧ idxN x p = y := fun {y} hy => ⟨p[y]'(by omega), List.mem_range.mp (hp.mem_iff.mp (List.getElem_mem _)), idx_of_get nd (by omega)⟩
  have inj : ∀ {x z}, x < us.length → z < us.length → idxN x p = idxN z p → x = z := fun {x z} hx hz e => by
    obtain ⟨h1, e1⟩ := idxN_get x (hp.mem_iff.mpr (List.mem_range.mpr hx))
    obtain ⟨h2, e2⟩ := idxN_get z (hp.mem_iff.mpr (List.mem_range.mpr hz))
    rw [← e1, ← e2]
    simp only [e]
  refine ⟨by rw [hn]; exact h.pos, fun x hx => ?_, fun x hx => ?_, fun x y z hx hy hz a b => ?_, fun x y hx hy a b => ?_, fun x y hx hy => ?_, fun x y hx hy => ?_⟩
  · rw [hn] at hx ⊢
    exact (named_form hf hp).2 x hx
  · rw [hn] at hx
    rw [L hx hx]
    exact h.refl _ (I hx)
  · rw [hn] at hx hy hz
    rw [L hx hy] at a
    rw [L hy hz] at b
    rw [L hx hz]
    exact h.trans _ _ _ (I hx) (I hy) (I hz) a b
  · rw [hn] at hx hy
    rw [L hx hy] at a
    rw [L hy hx] at b
    exact inj hx hy (h.anti _ _ (I hx) (I hy) a b)
  · rw [hn] at hx hy ⊢
    obtain ⟨z, hz, a, b, m⟩ := h.join _ _ (I hx) (I hy)
    obtain ⟨t, ht, rfl⟩ := S hz
    refine ⟨t, ht, by rw [L hx ht]; exact a, by rw [L hy ht]; exact b, fun w hw c d => ?_⟩
    rw [L hx hw] at c
    rw [L hy hw] at d
    rw [L ht hw]
    exact m _ (I hw) c d
  · rw [hn] at hx hy ⊢
    obtain ⟨z, hz, a, b, m⟩ := h.meet _ _ (I hx) (I hy)
    obtain ⟨t, ht, rfl⟩ := S hz
    refine ⟨t, ht, by rw [L ht hx]; exact a, by rw [L ht hy]; exact b, fun w hw c d => ?_⟩
    rw [L hw hx] at c
    rw [L hw hy] at d
    rw [L hw ht]
    exact m _ (I hw) c d
/-! families of sets -/
structure Fam (rows : List Nat) : Prop where
  sorted : rows.Pairwise (· < ·)
  meet : ∀ a ∈ rows, ∀ b ∈ rows, a &&& b ∈ rows
  top : ∃ t ∈ rows, ∀ a ∈ rows, a &&& t = a
def bysets (rows : List Nat) : List Nat := rows.map fun a => orL ((List.range rows.length).filter fun k => decide (a &&& rows.getD k 0 = a))
theorem bysets_le {rows : List Nat} {x y : Nat} (hx : x < rows.length) (hy : y < rows.length) : le (bysets rows) x y = decide (rows.getD x 0 &&& rows.getD y 0 = rows.getD x 0) := by
  unfold le
  rw [getD_at (by simp [bysets]; exact hx)]
  simp only [bysets, List.getElem_map]
  rw [testBit_orL, ← getD_at hx]
  apply decide_eq_decide.mpr
  rw [List.mem_filter, List.mem_range, decide_eq_true_eq]
  exact ⟨fun h => h.2, fun h => ⟨hy, h⟩⟩
theorem sub_trans {a b c : Nat} (h : a &&& b = a) (h2 : b &&& c = b) : a &&& c = a := by
  rw [← h, Nat.and_assoc, h2]
theorem fam_lat {rows : List Nat} (F : Fam rows) : Lat (bysets rows) := by
  obtain ⟨t, ht, htop⟩ := F.top
  have hn : (bysets rows).length = rows.length := by simp [bysets]
  have at_ : ∀ {x}, x < rows.length → rows.getD x 0 ∈ rows := fun hx => by rw [getD_at hx]; exact List.getElem_mem hx
  have ix : ∀ {a}, a ∈ rows → ∃ x, x < rows.length ∧ rows.getD x 0 = a := fun ha => by
    obtain ⟨x, hx, e⟩ := List.mem_iff_getElem.mp ha
    exact ⟨x, hx, by rw [getD_at hx, e]⟩
  have nd : rows.Nodup := F.sorted.imp fun h => by omega
  refine ⟨by rw [hn]; exact List.length_pos_of_mem ht, fun x hx => ?_, fun x hx => ?_, fun x y z hx hy hz a b => ?_, fun x y hx hy a b => ?_, fun x y hx hy => ?_, fun x y hx hy => ?_⟩
  · rw [getD_at hx, hn]
    simp only [bysets, List.getElem_map]
    exact orL_lt fun k hk => List.mem_range.mp (List.mem_filter.mp hk).1
  · rw [hn] at hx
    rw [bysets_le hx hx]
    exact decide_eq_true (Nat.and_self _)
  · rw [hn] at hx hy hz
    rw [bysets_le hx hy, decide_eq_true_eq] at a
    rw [bysets_le hy hz, decide_eq_true_eq] at b
    rw [bysets_le hx hz, decide_eq_true_eq]
    exact sub_trans a b
  · rw [hn] at hx hy
    rw [bysets_le hx hy, decide_eq_true_eq] at a
    rw [bysets_le hy hx, decide_eq_true_eq, Nat.and_comm] at b
    have e : rows.getD x 0 = rows.getD y 0 := a.symm.trans b
    rw [getD_at hx, getD_at hy] at e
    exact (List.getElem_inj nd).mp e
  · rw [hn] at hx hy ⊢
    -- the shared part of all that lie above both
    have fold : ∀ (l : List Nat), (∀ a ∈ l, a ∈ rows) → ∃ m ∈ rows, (∀ a ∈ l, m &&& a = m) ∧ ∀ c, c ∈ rows → (∀ a ∈ l, c &&& a = c) → c &&& m = c := by
      intro l
      induction l with
      | nil => exact fun _ => ⟨t, ht, fun a h => (nomatch h), fun c hc _ => htop c hc⟩
      | cons b l ih =>
        intro hl
        obtain ⟨m, hm, h1, h2⟩ := ih fun a h => hl a (List.mem_cons_of_mem _ h)
        refine ⟨m &&& b, F.meet m hm b (hl b List.mem_cons_self), fun a ha => ?_, fun c hc h => ?_⟩
        · rcases List.mem_cons.mp ha with q | q
          · rw [q, Nat.and_assoc, Nat.and_self]
          · rw [Nat.and_assoc, Nat.and_comm b a, ← Nat.and_assoc, h1 a q]
        · rw [← Nat.and_assoc, h2 c hc fun a ha => h a (List.mem_cons_of_mem _ ha), h b List.mem_cons_self]
    obtain ⟨m, hm, h1, h2⟩ := fold (rows.filter fun w => decide (rows.getD x 0 &&& w = rows.getD x 0) && decide (rows.getD y 0 &&& w = rows.getD y 0)) fun a h => (List.mem_filter.mp h).1
    obtain ⟨z, hz, rfl⟩ := ix hm
    have up : ∀ c, c ∈ rows → (∀ w, w ∈ rows → rows.getD x 0 &&& w = rows.getD x 0 → rows.getD y 0 &&& w = rows.getD y 0 → c &&& w = c) → c &&& rows.getD z 0 = c := fun c hc h => h2 c hc fun a ha => by
      obtain ⟨ha1, ha2⟩ := List.mem_filter.mp ha
      rw [Bool.and_eq_true, decide_eq_true_eq, decide_eq_true_eq] at ha2
      exact h a ha1 ha2.1 ha2.2
    refine ⟨z, hz, ?_, ?_, fun w hw a b => ?_⟩
    · rw [bysets_le hx hz, decide_eq_true_eq]
      exact up _ (at_ hx) fun w _ h _ => h
    · rw [bysets_le hy hz, decide_eq_true_eq]
      exact up _ (at_ hy) fun w _ _ h => h
    · rw [bysets_le hx hw, decide_eq_true_eq] at a
      rw [bysets_le hy hw, decide_eq_true_eq] at b
      rw [bysets_le hz hw, decide_eq_true_eq]
      exact h1 _ (List.mem_filter.mpr ⟨at_ hw, by rw [Bool.and_eq_true, decide_eq_true_eq, decide_eq_true_eq]; exact ⟨a, b⟩⟩)
  · rw [hn] at hx hy ⊢
    obtain ⟨z, hz, e⟩ := ix (F.meet _ (at_ hx) _ (at_ hy))
    refine ⟨z, hz, ?_, ?_, fun w hw a b => ?_⟩
    · rw [bysets_le hz hx, decide_eq_true_eq, e, Nat.and_comm (rows.getD x 0), Nat.and_assoc, Nat.and_self]
    · rw [bysets_le hz hy, decide_eq_true_eq, e, Nat.and_assoc, Nat.and_self]
    · rw [bysets_le hw hx, decide_eq_true_eq] at a
      rw [bysets_le hw hy, decide_eq_true_eq] at b
      rw [bysets_le hw hz, decide_eq_true_eq, e, ← Nat.and_assoc, a, b]
end K50
end
section
set_option Elab.async false
set_option linter.all false
set_option maxRecDepth 100000
set_option autoImplicit false
set_option exponentiation.threshold 2000
namespace K50
open PySem FL
theorem by_sets_spec (rows : List Nat) (h : rows.length ≤ 60) : f_law_by_sets [.d (ln rows)] = .ok (.d (tn (bysets rows))) [] := by
  have inner : ∀ a, mFrz (mLc (mWalk k1 (mCons (mCallB fLen (mCons (mVar 0) mNil)) mNil)) (.n 1) [1] (mTst tru (mCall [] 2 f_law_inside (mCons (mVar 2) (mCons (mOp oIx (mVar 0) (mVar 1)) mNil)))) (mVar 1)) [some (.d (ln rows)), none, some (on a)] = .ok (.o (.d (ln ((List.range rows.length).filter fun k => decide (a &&& rows.getD k 0 = a))))) [some (.d (ln rows)), none, some (on a)] := fun a =>
    frz_on (lc_filter (fun k => decide (a &&& rows.getD k 0 = a)) (walk1 (len_ln (var_d rfl)) (by omega)) rfl (fun k hk => tstT (call2 (var_d rfl) (op2 (var_d rfl) (var_d rfl) (ix_l (List.mem_range.mp hk))) (law_inside_spec _ _))) (by rw [List.length_range]; omega))
  have outer := lc_map (mi := mItems (mVar 0)) (j := 2) (e := mCall [] 1 f_law_bits (mCons (mFrz (mLc (mWalk k1 (mCons (mCallB fLen (mCons (mVar 0) mNil)) mNil)) (.n 1) [1] (mTst tru (mCall [] 2 f_law_inside (mCons (mVar 2) (mCons (mOp oIx (mVar 0) (mVar 1)) mNil)))) (mVar 1))) mNil)) (ρ := [some (.d (ln rows)), none, none]) (l := rows) (fun a => dn (orL ((List.range rows.length).filter fun k => decide (a &&& rows.getD k 0 = a)))) (items_l (var_d rfl)) rfl (fun a ha => by
    have hl : ((List.range rows.length).filter fun k => decide (a &&& rows.getD k 0 = a)).length ≤ rows.length := Nat.le_trans (List.length_filter_le _ _) (by simp)
    have hs2 := sortN_length ((List.range rows.length).filter fun k => decide (a &&& rows.getD k 0 = a))
    exact call1 (inner a) (law_bits_spec _ (by omega) (by omega) (fun k hk => by
      have := List.mem_range.mp (List.mem_filter.mp hk).1
      omega))) (by omega)
  rw [map_dn (fun a => orL ((List.range rows.length).filter fun k => decide (a &&& rows.getD k 0 = a)))] at outer
  exact fn_rt (ret_ok (tuple_on outer)) rfl
theorem dual_form (us : List Nat) : Form (dual us) us.length := by
  refine ⟨by simp [dual], fun x hx => ?_⟩
  rw [getD_at (by simp [dual]; exact hx)]
  simp only [dual, List.getElem_map]
  exact orL_lt fun k hk => List.mem_range.mp (List.mem_filter.mp hk).1
theorem dual_bit {us : List Nat} {x y : Nat} (hx : x < us.length) : ((dual us).getD x 0).testBit y = (decide (y < us.length) && (us.getD y 0).testBit x) := by
  rw [getD_at (by simp [dual]; exact hx)]
  simp only [dual, List.getElem_map, List.getElem_range]
  rw [testBit_orL]
  cases hb : (decide (y < us.length) && (us.getD y 0).testBit x) with
  | true =>
    rw [Bool.and_eq_true, decide_eq_true_eq] at hb
    exact decide_eq_true (List.mem_filter.mpr ⟨List.mem_range.mpr hb.1, hb.2⟩)
  | false =>
    apply decide_eq_false
    intro m
    obtain ⟨h1, h2⟩ := List.mem_filter.mp m
    rw [decide_eq_true (List.mem_range.mp h1), h2] at hb
    cases hb
def dsets (us : List Nat) : List Nat := (List.range (2 ^ us.length)).filter fun b => (bl b).all fun x => decide ((dual us).getD x 0 &&& b = (dual us).getD x 0)
theorem down_sets_spec (us : List Nat) (h : us.length ≤ 20) : f_law_down_sets [.d (tn us)] = .ok (.d (ln (dsets us))) [] := by
  have hd := dual_form us
  have hp : 2 ^ us.length ≤ 2 ^ 20 := Nat.pow_le_pow_right (by omega) h
  have lenE : mCall [] 1 f_law_bit (mCons (mCallB fLen (mCons (mVar 0) mNil)) mNil) [some (.d (tn us)), some (.d (tn (dual us))), none, none] = .ok (.o (on (2 ^ us.length))) [some (.d (tn us)), some (.d (tn (dual us))), none, none] := call1 (len_tn (var_d rfl)) (law_bit_spec _ (by omega))
  have inner : ∀ b, b < 2 ^ us.length → mLc (mItems (mCall [] 1 f_law_members (mCons (mVar 2) mNil))) (.n 3) [3] mYes (mCall [] 2 f_law_inside (mCons (mOp oIx (mVar 1) (mVar 3)) (mCons (mVar 2) mNil))) [some (.d (tn us)), some (.d (tn (dual us))), some (on b), none] = .ok (.o (.lst ((bl b).map fun x => .d (.bool (decide ((dual us).getD x 0 &&& b = (dual us).getD x 0)))))) [some (.d (tn us)), some (.d (tn (dual us))), some (on b), none] := fun b hb =>
    lc_map (l := bl b) (fun x => .bool (decide ((dual us).getD x 0 &&& b = (dual us).getD x 0))) (items_t (call1 (var_d rfl) (law_members_spec b (Nat.lt_of_lt_of_le hb (Nat.pow_le_pow_right (by omega) (by omega)))))) rfl (fun x hx => by
      have hx2 : x < us.length := by rw [bl_eq hb] at hx; exact (mem_pos.mp hx).1
      exact call2 (op2 (var_d rfl) (var_d rfl) (ix_t (by rw [hd.1]; exact hx2))) (var_d rfl) (law_inside_spec _ _)) (by rw [bl_eq hb]; have := pos_length b us.length; omega)
  have outer := frz_on (lc_filter (mi := mWalk k1 (mCons (mCall [] 1 f_law_bit (mCons (mCallB fLen (mCons (mVar 0) mNil)) mNil)) mNil)) (j := 2) (c := mTst tru (mCallB fAll (mCons (mLc (mItems (mCall [] 1 f_law_members (mCons (mVar 2) mNil))) (.n 3) [3] mYes (mCall [] 2 f_law_inside (mCons (mOp oIx (mVar 1) (mVar 3)) (mCons (mVar 2) mNil)))) mNil))) (ρ := [some (.d (tn us)), some (.d (tn (dual us))), none, none]) (l := List.range (2 ^ us.length))
    (fun b => (bl b).all fun x => decide ((dual us).getD x 0 &&& b = (dual us).getD x 0)) (walk1 lenE (by omega)) rfl (fun b hb => tstT (all_ok _ (bl b) (inner b (List.mem_range.mp hb)))) (by rw [List.length_range]; omega))
  exact fn_rt (seq_nx (set_ok (call1 (var_d rfl) (law_downs_spec us (by omega)))) (ret_ok outer)) rfl
theorem sub_iff {a b : Nat} : a &&& b = a ↔ ∀ k, a.testBit k = true → b.testBit k = true := by
  constructor
  · intro h k hk
    rw [← h, Nat.testBit_and, Bool.and_eq_true] at hk
    exact hk.2
  · intro h
    apply Nat.eq_of_testBit_eq
    intro k
    rw [Nat.testBit_and]
    cases e : a.testBit k with
    | false => rfl
    | true => rw [h k e]; rfl
theorem full_bit {n k : Nat} : (2 ^ n - 1).testBit k = decide (k < n) := Nat.testBit_two_pow_sub_one n k
theorem dsets_fam (us : List Nat) : Fam (dsets us) := by
  have hp := Nat.two_pow_pos us.length
  have mem : ∀ b, b ∈ dsets us ↔ b < 2 ^ us.length ∧ ∀ x, b.testBit x = true → (dual us).getD x 0 &&& b = (dual us).getD x 0 := fun b => by
    unfold dsets
    rw [List.mem_filter, List.mem_range, List.all_eq_true]
    refine and_congr_right fun _ => ⟨fun h x hx => of_decide_eq_true (h x (mem_bl.mpr hx)), fun h x hx => decide_eq_true (h x (mem_bl.mp hx))⟩
  refine ⟨List.pairwise_lt_range.filter _, fun a ha b hb => ?_, 2 ^ us.length - 1, (mem _).mpr ⟨by omega, fun x hx => ?_⟩, fun a ha => ?_⟩
  · obtain ⟨a1, a2⟩ := (mem a).mp ha
    obtain ⟨b1, b2⟩ := (mem b).mp hb
    refine (mem _).mpr ⟨Nat.lt_of_le_of_lt Nat.and_le_left a1, fun x hx => ?_⟩
    rw [Nat.testBit_and, Bool.and_eq_true] at hx
    rw [← Nat.and_assoc, a2 x hx.1, b2 x hx.2]
  · rw [full_bit, decide_eq_true_eq] at hx
    rw [sub_iff]
    intro k hk
    rw [full_bit]
    apply decide_eq_true
    have := (dual_form us).2 x hx
    exact Classical.byContradiction fun q => by
      rw [Nat.testBit_lt_two_pow (Nat.lt_of_lt_of_le this (Nat.pow_le_pow_right (by omega) (by omega)))] at hk
      cases hk
  · rw [sub_iff]
    intro k hk
    rw [full_bit]
    apply decide_eq_true
    have := ((mem a).mp ha).1
    exact Classical.byContradiction fun q => by
      rw [Nat.testBit_lt_two_pow (Nat.lt_of_lt_of_le this (Nat.pow_le_pow_right (by omega) (by omega)))] at hk
      cases hk
end K50
end
section
set_option Elab.async false
set_option linter.all false
set_option maxRecDepth 100000
set_option autoImplicit false
set_option exponentiation.threshold 2000
namespace K50
open PySem FL
def andL (vs : List Nat) (l : List Nat) (a : Nat) : Nat := l.foldl (fun a x => a &&& vs.getD x 0) a
theorem andL_bit (vs : List Nat) : ∀ (l : List Nat) (a k : Nat), (andL vs l a).testBit k = (a.testBit k && l.all fun x => (vs.getD x 0).testBit k)
  | [], a, k => by simp [andL]
  | x :: l, a, k => by
    show (andL vs l (a &&& vs.getD x 0)).testBit k = _
    rw [andL_bit vs l, Nat.testBit_and, List.all_cons, Bool.and_assoc]
theorem andL_le (vs : List Nat) (l : List Nat) (a n : Nat) (h : a < 2 ^ n) : andL vs l a < 2 ^ n := by
  apply Nat.lt_pow_two_of_testBit
  intro i hi
  rw [andL_bit, Nat.testBit_lt_two_pow (Nat.lt_of_lt_of_le h (Nat.pow_le_pow_right (by omega) hi))]
  rfl
theorem andL_snoc (vs l : List Nat) (x a : Nat) : andL vs (l ++ [x]) a = andL vs l a &&& vs.getD x 0 := by
  unfold andL
  rw [List.foldl_append]
  rfl
def upF (us : List Nat) (b : Nat) : Nat := andL us (bl b) (2 ^ us.length - 1)
def lowF (us : List Nat) (b : Nat) : Nat := andL (dual us) (bl (upF us b)) (2 ^ us.length - 1)
def cutsF (us : List Nat) : List Nat := sortN ((List.range (2 ^ us.length)).map (lowF us))
theorem cuts_spec (us : List Nat) (h : us.length ≤ 5) : f_law_cuts [.d (tn us)] = .ok (.d (ln (cutsF us))) [] := by
  have hd := dual_form us
  have hp : 2 ^ us.length ≤ 2 ^ 5 := Nat.pow_le_pow_right (by omega) h
  have hp0 := Nat.two_pow_pos us.length
  have bitE : ∀ ρ : FL.Env, ρ[1]? = some (some (on us.length)) → mOp oSub (mCall [] 1 f_law_bit (mCons (mVar 1) mNil)) (mC (.int 1)) ρ = .ok (.o (on (2 ^ us.length - 1))) ρ := fun ρ hρ => op2 (call1 (var_d hρ) (law_bit_spec _ (by omega))) rfl (oSub_n _ 1 (by omega))
  have hb1000 : ∀ b, b < 2 ^ us.length → b < 2 ^ 1000 := fun b hb => Nat.lt_of_lt_of_le hb (Nat.pow_le_pow_right (by omega) (by omega))
  have in_n : ∀ b, b < 2 ^ us.length → ∀ x ∈ bl b, x < us.length := fun b hb x hx => by
    rw [bl_eq hb] at hx
    exact (mem_pos.mp hx).1
  -- the two inner walks
  have w5 : ∀ (f : List PyData) (b : Nat) (x6 l7 : Option O), b < 2 ^ us.length → ∃ x', forL (.n 6) (mSet 5 (mOp oAnd (mVar 5) (mOp oIx (mVar 0) (mVar 6)))) ((bl b).map dn) [some (.d (tn us)), some (on us.length), some (.d (tn (dual us))), some (ol f), some (on b), some (on (2 ^ us.length - 1)), x6, l7] = .nx [some (.d (tn us)), some (on us.length), some (.d (tn (dual us))), some (ol f), some (on b), some (on (upF us b)), x', l7] := fun f b x6 l7 hb => by
    obtain ⟨ρ', e, x', rfl⟩ := forL_inv (tg := .n 6) (b := mSet 5 (mOp oAnd (mVar 5) (mOp oIx (mVar 0) (mVar 6)))) (fun i ρ => ∃ x', ρ = [some (.d (tn us)), some (on us.length), some (.d (tn (dual us))), some (ol f), some (on b), some (on (andL us ((bl b).take i) (2 ^ us.length - 1))), x', l7]) (items := (bl b).map dn) (ρ := [some (.d (tn us)), some (on us.length), some (.d (tn (dual us))), some (ol f), some (on b), some (on (2 ^ us.length - 1)), x6, l7]) (by
      rintro i d ρ hdi ⟨x', rfl⟩
      obtain ⟨hi, rfl⟩ := map_at hdi
      refine ⟨_, _, rfl, .inl ?_, some (on (bl b)[i]), rfl⟩
      rw [take_snoc _ i hi, andL_snoc]
      exact set_ok (op2 (var_d rfl) (op2 (var_d rfl) (var_d rfl) (ix_t (in_n b hb _ (List.getElem_mem hi)))) (oAnd_n _ _))) ⟨x6, rfl⟩
    rw [List.length_map, List.take_length] at e
    exact ⟨x', e⟩
  have w7 : ∀ (f : List PyData) (b u : Nat) (x6 : Option O), u < 2 ^ us.length → ∃ x', forL (.n 6) (mSet 7 (mOp oAnd (mVar 7) (mOp oIx (mVar 2) (mVar 6)))) ((bl u).map dn) [some (.d (tn us)), some (on us.length), some (.d (tn (dual us))), some (ol f), some (on b), some (on u), x6, some (on (2 ^ us.length - 1))] = .nx [some (.d (tn us)), some (on us.length), some (.d (tn (dual us))), some (ol f), some (on b), some (on u), x', some (on (andL (dual us) (bl u) (2 ^ us.length - 1)))] := fun f b u x6 hu => by
    obtain ⟨ρ', e, x', rfl⟩ := forL_inv (tg := .n 6) (b := mSet 7 (mOp oAnd (mVar 7) (mOp oIx (mVar 2) (mVar 6)))) (fun i ρ => ∃ x', ρ = [some (.d (tn us)), some (on us.length), some (.d (tn (dual us))), some (ol f), some (on b), some (on u), x', some (on (andL (dual us) ((bl u).take i) (2 ^ us.length - 1)))]) (items := (bl u).map dn) (ρ := [some (.d (tn us)), some (on us.length), some (.d (tn (dual us))), some (ol f), some (on b), some (on u), x6, some (on (2 ^ us.length - 1))]) (by
      rintro i d ρ hdi ⟨x', rfl⟩
      obtain ⟨hi, rfl⟩ := map_at hdi
      refine ⟨_, _, rfl, .inl ?_, some (on (bl u)[i]), rfl⟩
      rw [take_snoc _ i hi, andL_snoc]
      exact set_ok (op2 (var_d rfl) (op2 (var_d rfl) (var_d rfl) (ix_t (by rw [hd.1]; exact in_n u hu _ (List.getElem_mem hi)))) (oAnd_n _ _))) ⟨x6, rfl⟩
    rw [List.length_map, List.take_length] at e
    exact ⟨x', e⟩
  obtain ⟨ρ', e, b4, u5, x6, l7, rfl⟩ := forL_inv (tg := .n 4) (b := mSeq (mSet 5 (mOp oSub (mCall [] 1 f_law_bit (mCons (mVar 1) mNil)) (mC (.int 1))))
    (mSeq (mFor (mItems (mCall [] 1 f_law_members (mCons (mVar 4) mNil))) (.n 6) (mSet 5 (mOp oAnd (mVar 5) (mOp oIx (mVar 0) (mVar 6)))))
    (mSeq (mSet 7 (mOp oSub (mCall [] 1 f_law_bit (mCons (mVar 1) mNil)) (mC (.int 1))))
    (mSeq (mFor (mItems (mCall [] 1 f_law_members (mCons (mVar 5) mNil))) (.n 6) (mSet 7 (mOp oAnd (mVar 7) (mOp oIx (mVar 2) (mVar 6)))))
    (mExpr (mAppend 3 (mVar 7)))))))
    (fun i ρ => ∃ b4 u5 x6 l7, ρ = [some (.d (tn us)), some (on us.length), some (.d (tn (dual us))), some (ol (((List.range i).map (lowF us)).map dn)), b4, u5, x6, l7]) (items := (List.range (2 ^ us.length)).map dn) (ρ := [some (.d (tn us)), some (on us.length), some (.d (tn (dual us))), some (ol []), none, none, none, none]) (by
    rintro i d ρ hdi ⟨b4, u5, x6, l7, rfl⟩
    obtain ⟨hi, rfl⟩ := map_at hdi
    have hv : (List.range (2 ^ us.length))[i] = i := by simp
    rw [List.length_range] at hi
    rw [hv]
    have hu : upF us i < 2 ^ us.length := andL_le _ _ _ _ (by omega)
    obtain ⟨x', e1⟩ := w5 (((List.range i).map (lowF us)).map dn) i x6 l7 hi
    obtain ⟨x'', e2⟩ := w7 (((List.range i).map (lowF us)).map dn) i (upF us i) x' hu
    refine ⟨_, _, rfl, .inl (seq_nx (set_ok (bitE _ rfl)) (seq_nx (for_ok (items_t (call1 (var_d rfl) (law_members_spec i (hb1000 i hi)))) e1) (seq_nx (set_ok (bitE _ rfl)) (seq_nx (for_ok (items_t (call1 (var_d rfl) (law_members_spec _ (hb1000 _ hu)))) e2) (expr_ok (append_ok rfl rfl (var_d rfl) (by simp; omega))))))), some (on i), some (on (upF us i)), x'', some (on (lowF us i)), ?_⟩
    rw [List.range_succ, List.map_append, List.map_append]
    unfold ol
    rw [List.map_append]
    rfl) ⟨none, none, none, none, rfl⟩
  rw [List.length_map, List.length_range] at e
  have hl : ((List.range (2 ^ us.length)).map (lowF us)).length ≤ 32 := by rw [List.length_map, List.length_range]; exact hp
  have hs := sortN_length ((List.range (2 ^ us.length)).map (lowF us))
  exact fn_rt (seq_nx (set_ok (len_tn (var_d rfl))) (seq_nx (set_ok (call1 (var_d rfl) (law_downs_spec us (by omega)))) (seq_nx (set_ok (o := ol []) rfl) (seq_nx (for_ok (walk1 (call1 (var_d rfl) (law_bit_spec _ (by omega))) (by omega)) e) (ret_ok (frz_on (sortU_own (xs := (List.range (2 ^ us.length)).map (lowF us)) rfl (by omega) (by omega)))))))) rfl
theorem up_bit {us : List Nat} {b x : Nat} : (upF us b).testBit x = true ↔ x < us.length ∧ ∀ y, b.testBit y = true → (us.getD y 0).testBit x = true := by
  unfold upF
  rw [andL_bit, full_bit, Bool.and_eq_true, decide_eq_true_eq, List.all_eq_true]
  exact and_congr_right fun _ => ⟨fun h y hy => h y (mem_bl.mpr hy), fun h y hy => h y (mem_bl.mp hy)⟩
theorem low_bit {us : List Nat} {b y : Nat} : (lowF us b).testBit y = true ↔ y < us.length ∧ ∀ x, (upF us b).testBit x = true → (us.getD y 0).testBit x = true := by
  unfold lowF
  rw [andL_bit, full_bit, Bool.and_eq_true, decide_eq_true_eq, List.all_eq_true]
  refine and_congr_right fun hy => ⟨fun h x hx => ?_, fun h x hx => ?_⟩
  · have := h x (mem_bl.mpr hx)
    rw [dual_bit (up_bit.mp hx).1, Bool.and_eq_true] at this
    exact this.2
  · have hx2 := mem_bl.mp hx
    rw [dual_bit (up_bit.mp hx2).1, Bool.and_eq_true, decide_eq_true_eq]
    exact ⟨hy, h x hx2⟩
theorem cuts_fam (us : List Nat) : Fam (cutsF us) := by
  have hp := Nat.two_pow_pos us.length
  have mem : ∀ a, a ∈ cutsF us ↔ ∃ b, b < 2 ^ us.length ∧ lowF us b = a := fun a => by
    unfold cutsF
    rw [sortN_mem, List.mem_map]
    exact ⟨fun ⟨b, h1, h2⟩ => ⟨b, List.mem_range.mp h1, h2⟩, fun ⟨b, h1, h2⟩ => ⟨b, List.mem_range.mpr h1, h2⟩⟩
  have lt : ∀ b, lowF us b < 2 ^ us.length := fun b => andL_le _ _ _ _ (by omega)
  refine ⟨sortN_sorted _, fun a ha b hb => ?_, 2 ^ us.length - 1, (mem _).mpr ⟨2 ^ us.length - 1, by omega, ?_⟩, fun a ha => ?_⟩
  · obtain ⟨c, hc, rfl⟩ := (mem a).mp ha
    obtain ⟨d, hd, rfl⟩ := (mem b).mp hb
    refine (mem _).mpr ⟨lowF us c &&& lowF us d, Nat.lt_of_le_of_lt Nat.and_le_left (lt c), ?_⟩
    apply Nat.eq_of_testBit_eq
    intro y
    rw [Nat.testBit_and]
    apply Bool.eq_iff_iff.mpr
    rw [Bool.and_eq_true, low_bit, low_bit, low_bit]
    constructor
    · rintro ⟨hy, h⟩
      refine ⟨⟨hy, fun x hx => h x ?_⟩, hy, fun x hx => h x ?_⟩
      · refine up_bit.mpr ⟨(up_bit.mp hx).1, fun z hz => ?_⟩
        rw [Nat.testBit_and, Bool.and_eq_true] at hz
        exact (low_bit.mp hz.1).2 x hx
      · refine up_bit.mpr ⟨(up_bit.mp hx).1, fun z hz => ?_⟩
        rw [Nat.testBit_and, Bool.and_eq_true] at hz
        exact (low_bit.mp hz.2).2 x hx
    · rintro ⟨⟨hy, h1⟩, _, h2⟩
      refine ⟨hy, fun x hx => (up_bit.mp hx).2 y ?_⟩
      rw [Nat.testBit_and, Bool.and_eq_true, low_bit, low_bit]
      exact ⟨⟨hy, h1⟩, hy, h2⟩
  · apply Nat.eq_of_testBit_eq
    intro y
    apply Bool.eq_iff_iff.mpr
    rw [low_bit, full_bit, decide_eq_true_eq]
    refine ⟨fun h => h.1, fun hy => ⟨hy, fun x hx => (up_bit.mp hx).2 y ?_⟩⟩
    rw [full_bit]
    exact decide_eq_true hy
  · obtain ⟨c, _, rfl⟩ := (mem a).mp ha
    rw [sub_iff]
    intro k hk
    rw [full_bit]
    exact decide_eq_true (low_bit.mp hk).1
end K50
end
section
set_option Elab.async false
set_option linter.all false
set_option maxRecDepth 100000
set_option autoImplicit false
set_option exponentiation.threshold 2000
namespace K50
open PySem FL
/-! ### the fifth kind: sets made by meets -/
def stepF (rows : List Nat) : List Nat := sortN (rows ++ rows.flatMap fun a => rows.map fun b => a &&& b)
theorem mem_step {rows : List Nat} {c : Nat} : c ∈ stepF rows ↔ ∃ a b, a ∈ rows ∧ b ∈ rows ∧ a &&& b = c := by
  unfold stepF
  rw [sortN_mem, List.mem_append, List.mem_flatMap]
  constructor
  · rintro (h | ⟨a, ha, h⟩)
    · exact ⟨c, c, h, h, Nat.and_self c⟩
    · obtain ⟨b, hb, e⟩ := List.mem_map.mp h
      exact ⟨a, b, ha, hb, e⟩
  · rintro ⟨a, b, ha, hb, e⟩
    exact .inr ⟨a, ha, List.mem_map.mpr ⟨b, hb, e⟩⟩
/-- what lies in 15 and all of l -/
def capL (l : List Nat) : Nat := l.foldl (· &&& ·) 15
theorem capL_bit (l : List Nat) (k : Nat) : (capL l).testBit k = ((15 : Nat).testBit k && l.all fun g => g.testBit k) := by
  have : ∀ (l : List Nat) (a : Nat), (l.foldl (· &&& ·) a).testBit k = (a.testBit k && l.all fun g => g.testBit k) := by
    intro l
    induction l with
    | nil => intro a; simp
    | cons x l ih =>
      intro a
      rw [List.foldl_cons, ih, Nat.testBit_and, List.all_cons, Bool.and_assoc]
  exact this l 15
theorem capL_congr {l l' : List Nat} (h : ∀ g, g ∈ l ↔ g ∈ l') : capL l = capL l' := by
  apply Nat.eq_of_testBit_eq
  intro k
  rw [capL_bit, capL_bit]
  congr 1
  apply Bool.eq_iff_iff.mpr
  rw [List.all_eq_true, List.all_eq_true]
  exact ⟨fun q g hg => q g ((h g).mpr hg), fun q g hg => q g ((h g).mp hg)⟩
theorem capL_append (l l' : List Nat) : capL l &&& capL l' = capL (l ++ l') := by
  apply Nat.eq_of_testBit_eq
  intro k
  rw [Nat.testBit_and, capL_bit, capL_bit, capL_bit, List.all_append]
  cases (15 : Nat).testBit k <;> simp
theorem capL_lt (l : List Nat) : capL l < 16 := by
  have : capL l < 2 ^ 4 := by
    apply Nat.lt_pow_two_of_testBit
    intro i hi
    rw [capL_bit, Nat.testBit_lt_two_pow (Nat.lt_of_lt_of_le (show 15 < 2 ^ 4 by decide) (Nat.pow_le_pow_right (by omega) hi))]
    rfl
  exact this
/-- rows are caps of lists of gens; short lists are all there -/
structure Caps (gens : List Nat) (m : Nat) (rows : List Nat) : Prop where
  all : ∀ a ∈ rows, ∃ l, (∀ g ∈ l, g ∈ gens) ∧ a = capL l
  short : ∀ l, (∀ g ∈ l, g ∈ gens) → l.length ≤ m → capL l ∈ rows
theorem Caps.step {gens : List Nat} {m : Nat} {rows : List Nat} (h : Caps gens m rows) : Caps gens (2 * m) (stepF rows) := by
  refine ⟨fun c hc => ?_, fun l hl hm => ?_⟩
  · obtain ⟨a, b, ha, hb, rfl⟩ := mem_step.mp hc
    obtain ⟨l1, h1, rfl⟩ := h.all a ha
    obtain ⟨l2, h2, rfl⟩ := h.all b hb
    exact ⟨l1 ++ l2, fun g hg => (List.mem_append.mp hg).elim (h1 g) (h2 g), capL_append l1 l2⟩
  · refine mem_step.mpr ⟨capL (l.take m), capL (l.drop m), h.short _ (fun g hg => hl g (List.mem_of_mem_take hg)) (by rw [List.length_take]; omega), h.short _ (fun g hg => hl g (List.mem_of_mem_drop hg)) (by rw [List.length_drop]; omega), ?_⟩
    rw [capL_append, List.take_append_drop]
theorem Caps.start {gens : List Nat} (hg : ∀ g ∈ gens, g < 16) : Caps gens 1 (15 :: gens) := by
  have one : ∀ g, g < 16 → capL [g] = g := fun g hg => by
    show 15 &&& g = g
    rw [Nat.and_comm]
    have := Nat.and_two_pow_sub_one_eq_mod g 4
    rw [show 2 ^ 4 - 1 = 15 by decide] at this
    rw [this]
    exact Nat.mod_eq_of_lt hg
  refine ⟨fun a ha => ?_, fun l hl hm => ?_⟩
  · rcases List.mem_cons.mp ha with q | q
    · exact ⟨[], fun g h => (nomatch h), q⟩
    · exact ⟨[a], fun g h => by rw [List.mem_singleton.mp h]; exact q, (one a (hg a q)).symm⟩
  · match l, hm with
    | [], _ => exact List.mem_cons_self
    | [g], _ =>
      have := hl g List.mem_cons_self
      rw [one g (hg g this)]
      exact List.mem_cons_of_mem _ this
    | _ :: _ :: _, hm => simp at hm
theorem Caps.fam {gens : List Nat} {m : Nat} {rows : List Nat} (h : Caps gens m rows) (hl : gens.length ≤ m) (hs : rows.Pairwise (· < ·)) : Fam rows := by
  have every : ∀ l, (∀ g ∈ l, g ∈ gens) → capL l ∈ rows := fun l hg => by
    have e : capL l = capL (gens.filter fun g => decide (g ∈ l)) := capL_congr fun g => by
      rw [List.mem_filter, decide_eq_true_eq]
      exact ⟨fun m => ⟨hg g m, m⟩, fun m => m.2⟩
    rw [e]
    exact h.short _ (fun g hm => (List.mem_filter.mp hm).1) (Nat.le_trans (List.length_filter_le _ _) hl)
  refine ⟨hs, fun a ha b hb => ?_, 15, every [] fun g h => (nomatch h), fun a ha => ?_⟩
  · obtain ⟨l1, h1, rfl⟩ := h.all a ha
    obtain ⟨l2, h2, rfl⟩ := h.all b hb
    rw [capL_append]
    exact every _ fun g hg => (List.mem_append.mp hg).elim (h1 g) (h2 g)
  · obtain ⟨l1, h1, rfl⟩ := h.all a ha
    have := capL_append l1 []
    rw [List.append_nil] at this
    exact this
/-- the state within the fifth kind -/
def S4 (o : O) (most menu : Nat) (a7 : Option O) (rows : List Nat) (t14 m15 : Option O) : FL.Env := [some o, some (on most), some (on menu), none, none, none, none, a7, none, none, none, none, some (.d (ln rows)), none, t14, m15, none]
theorem kind4 {o : O} (hd : Dr o) {most menu : Nat} : ∃ o' rows ρ', Dr o' ∧ Fam rows ∧ rows.length ≤ 16 ∧ (∃ a7 t14 m15, ρ' = (S4 o' most menu a7 rows t14 m15)) ∧
    (mSeq (mSet 12 (mOp oAdd (mLstD (mCons (mC (.int 15)) mNil)) (mLc (mWalk k1 (mCons (mCall [0] 2 f_law_take (mCons (mVar 0) (mCons (mC (.int 4)) mNil))) mNil)) (.n 13) [13] mYes (mCall [0] 2 f_law_take (mCons (mVar 0) (mCons (mC (.int 16)) mNil))))))
    (mFor (mWalk k1 (mCons (mC (.int 3)) mNil)) (.n 14)
    (mSeq (mSet 15 (mLstO mNil))
    (mSeq (mFor (mItems (mVar 12)) (.n 7)
    (mExpr (mExtend 15 (mLc (mItems (mVar 12)) (.n 8) [8] mYes (mOp oAnd (mVar 7) (mVar 8))))))
    (mSet 12 (mFrz (mCallL lSortU (mCons (mOp oAdd (mVar 12) (mVar 15)) mNil)))))))) [some o, some (on most), some (on menu), none, none, none, none, none, none, none, none, none, none, none, none, none, none] = .nx ρ' := by
  obtain ⟨c, o1, e1, hc, hd1⟩ := take_at hd (j := 0) (m := mC (.int 4)) (many := 4) (ρ := [some o, some (on most), some (on menu), none, none, none, none, none, none, none, none, none, none, none, none, none, none]) rfl rfl (by omega) (by omega)
  obtain ⟨os, ρ1, e2, o2, gens, hd2, rfl, hgl, hg, rfl⟩ := lc_inv (mi := mWalk k1 (mCons (mCall [0] 2 f_law_take (mCons (mVar 0) (mCons (mC (.int 4)) mNil))) mNil)) (j := 13) (c := mYes) (e := mCall [0] 2 f_law_take (mCons (mVar 0) (mCons (mC (.int 16)) mNil))) (ρ0 := [some o, some (on most), some (on menu), none, none, none, none, none, none, none, none, none, none, none, none, none, none]) (items := (List.range c).map dn)
    (fun i acc ρ => ∃ o' l, Dr o' ∧ acc = l.map on ∧ l.length = i ∧ (∀ g ∈ l, g < 16) ∧ ρ = [some o', some (on most), some (on menu), none, none, none, none, none, none, none, none, none, none, none, none, none, none]) (walk1 e1 (by omega)) rfl (by
      rintro i d acc ρ hdi ⟨o', l, hdo', rfl, hl, hg, rfl⟩
      obtain ⟨hi, rfl⟩ := map_at hdi
      obtain ⟨r, o3, e, hr, hd3⟩ := take_at hdo' (j := 0) (m := mC (.int 16)) (many := 16) (ρ := [some o', some (on most), some (on menu), none, none, none, none, none, none, none, none, none, none, some (on (List.range c)[i]), none, none, none]) rfl rfl (by omega) (by omega)
      exact ⟨true, _, rfl, fun _ => ⟨_, _, e, rfl, o3, l ++ [r], hd3, by simp, by simp; omega, fun g hg2 => (List.mem_append.mp hg2).elim (hg g) fun q => by rw [List.mem_singleton.mp q]; exact hr, rfl⟩, fun z => by cases z⟩)
    ⟨o1, [], hd1, rfl, rfl, fun g h => (nomatch h), rfl⟩ (by
      rintro os ρ' ⟨o', l, _, rfl, h, _, _⟩
      rw [List.length_map, h, List.length_map, List.length_range]
      omega)
  rw [List.length_map, List.length_range] at hgl
  rw [on_lst] at e2
  have s1 := op_l (f := oAdd) (lstD_ok (xs := [.o (on 15)]) (ys := [dn 15]) (ρ := [some o, some (on most), some (on menu), none, none, none, none, none, none, none, none, none, none, none, none, none, none]) (ms_cons rfl ms_nil) rfl rfl) e2 (oAdd_l [dn 15] (gens.map dn) (by simp; omega))
  -- the three turns
  obtain ⟨ρ2, e3, o3, rows, a7, t14, m15, hd3, hcap, hlt, hsrt, rfl⟩ := forL_inv (tg := .n 14) (b := mSeq (mSet 15 (mLstO mNil)) (mSeq (mFor (mItems (mVar 12)) (.n 7) (mExpr (mExtend 15 (mLc (mItems (mVar 12)) (.n 8) [8] mYes (mOp oAnd (mVar 7) (mVar 8)))))) (mSet 12 (mFrz (mCallL lSortU (mCons (mOp oAdd (mVar 12) (mVar 15)) mNil))))))
    (fun i ρ => ∃ o' rows a7 t14 m15, Dr o' ∧ Caps gens (2 ^ i) rows ∧ (rows.length ≤ 16 ∧ ∀ a ∈ rows, a < 16) ∧ (i = 0 ∨ rows.Pairwise (· < ·)) ∧ ρ = S4 o' most menu a7 rows t14 m15) (items := (List.range 3).map dn) (ρ := S4 o2 most menu none (15 :: gens) none none) (by
      rintro i d ρ hdi ⟨o', rows, a7, t14, m15, hdo, hcap, ⟨hl16, hlt⟩, hs, rfl⟩
      obtain ⟨hi, rfl⟩ := map_at hdi
      -- all pairs
      obtain ⟨ρ', e, a7', rfl⟩ := forL_inv (tg := .n 7) (b := mExpr (mExtend 15 (mLc (mItems (mVar 12)) (.n 8) [8] mYes (mOp oAnd (mVar 7) (mVar 8)))))
        (fun k ρ => ∃ a7, ρ = S4 o' most menu a7 rows (some (on (List.range 3)[i])) (some (ol (((rows.take k).flatMap fun a => rows.map fun b => a &&& b).map dn)))) (items := rows.map dn) (ρ := S4 o' most menu a7 rows (some (on (List.range 3)[i])) (some (ol []))) (by
          rintro k d ρ hdk ⟨a7, rfl⟩
          obtain ⟨hk, rfl⟩ := map_at hdk
          have hm := lc_map (mi := mItems (mVar 12)) (j := 8) (e := mOp oAnd (mVar 7) (mVar 8)) (ρ := S4 o' most menu (some (on rows[k])) rows (some (on (List.range 3)[i])) (some (ol (((rows.take k).flatMap fun a => rows.map fun b => a &&& b).map dn)))) (l := rows) (fun b => dn (rows[k] &&& b)) (items_l (var_d rfl)) rfl (fun b hb => op2 (var_d rfl) (var_d rfl) (oAnd_n _ _)) (by omega)
          rw [map_dn (fun b => rows[k] &&& b)] at hm
          have hlen : ((rows.take k).flatMap fun a => rows.map fun b => a &&& b).length ≤ 16 * 16 := by
            have : ∀ l : List Nat, (l.flatMap fun a => rows.map fun b => a &&& b).length = l.length * rows.length := fun l => by
              induction l with
              | nil => simp
              | cons x l ih => rw [List.flatMap_cons, List.length_append, ih, List.length_map, List.length_cons, Nat.add_mul, Nat.one_mul, Nat.add_comm]
            rw [this, List.length_take]
            exact Nat.mul_le_mul (by omega) hl16
          refine ⟨_, _, rfl, .inl (expr_ok (extend_ok rfl rfl hm (by rw [List.length_map, List.length_map, List.length_map]; omega))), some (on rows[k]), ?_⟩
          rw [take_snoc rows k hk, List.flatMap_append, List.map_append]
          simp [S4, List.flatMap_cons]) ⟨a7, rfl⟩
      rw [List.length_map, List.take_length] at e
      have hlen : (rows.flatMap fun a => rows.map fun b => a &&& b).length ≤ 16 * 16 := by
        have : ∀ l : List Nat, (l.flatMap fun a => rows.map fun b => a &&& b).length = l.length * rows.length := fun l => by
          induction l with
          | nil => simp
          | cons x l ih => rw [List.flatMap_cons, List.length_append, ih, List.length_map, List.length_cons, Nat.add_mul, Nat.one_mul, Nat.add_comm]
        rw [this]
        exact Nat.mul_le_mul hl16 hl16
      have hlt2 : ∀ a ∈ stepF rows, a < 16 := fun a ha => by
        obtain ⟨b, c, hb, hc, rfl⟩ := mem_step.mp ha
        exact Nat.lt_of_le_of_lt Nat.and_le_left (hlt b hb)
      have hs16 : (stepF rows).length ≤ 16 := sorted_len (sortN_sorted _) hlt2
      have ea := op_s (f := oAdd) (ma := mVar 12) (j := 15) (ρ := S4 o' most menu a7' rows (some (on (List.range 3)[i])) (some (ol ((rows.flatMap fun a => rows.map fun b => a &&& b).map dn)))) (var_d rfl) rfl (oAdd_l (rows.map dn) ((rows.flatMap fun a => rows.map fun b => a &&& b).map dn) (by rw [List.length_map, List.length_map]; omega))
      rw [← List.map_append] at ea
      have eb := frz_on (sortU_v (xs := rows ++ rows.flatMap fun a => rows.map fun b => a &&& b) (.inl rfl) ea (by rw [List.length_append]; omega) (by show (stepF rows).length < 64; omega))
      refine ⟨_, _, rfl, .inl (seq_nx (set_ok (o := ol []) rfl) (seq_nx (for_ok (items_l (var_d rfl)) e) (set_ok eb))), o', stepF rows, a7', some (on (List.range 3)[i]), _, hdo, by rw [Nat.pow_succ, Nat.mul_comm]; exact hcap.step, ⟨hs16, hlt2⟩, .inr (sortN_sorted _), rfl⟩)
    ⟨o2, 15 :: gens, none, none, none, hd2, Caps.start hg, ⟨by rw [List.length_cons]; omega, fun a ha => (List.mem_cons.mp ha).elim (fun q => by omega) (hg a)⟩, .inl rfl, rfl⟩
  have hsrt2 : rows.Pairwise (· < ·) := hsrt.resolve_left (by simp)
  exact ⟨o3, rows, _, hd3, hcap.fam (by simp; omega) hsrt2, hlt.1, ⟨a7, t14, m15, rfl⟩, seq_nx (set_ok s1) (for_ok (walk1 (n := 3) rfl (by omega)) e3)⟩
end K50
end
section
set_option Elab.async false
set_option linter.all false
set_option maxRecDepth 100000
set_option autoImplicit false
set_option exponentiation.threshold 2000
namespace K50
open PySem FL
def getR (r : RS) (i : Nat) : Option O := match r with
  | .nx ρ => (match ρ[i]? with | some (some o) => some o | _ => none)
  | _ => none
def natsD : List PyData → Option (List Nat)
  | [] => some []
  | .int (.ofNat k) :: xs => (match natsD xs with | some l => some (k :: l) | none => none)
  | _ => none
def usR (r : RS) : Option (List Nat) := match getR r 6 with
  | some (.d (.tuple xs)) => natsD xs
  | _ => none
def lenR (r : RS) : Nat := match r with | .nx ρ => ρ.length | _ => 0
/-- an order in the slot 6 that is a lattice or too large -/
def okR (r : RS) : Bool := match usR r with
  | some us => Nat.ble us.length 60 && (Nat.blt 10 us.length || latB us)
  | none => false
theorem natsD_eq : ∀ {xs : List PyData} {l : List Nat}, natsD xs = some l → xs = l.map dn
  | [], _, h => by cases h; rfl
  | x :: xs, l, h => by
    unfold natsD at h
    split at h
    · rename_i e; cases e
    · rename_i k xs' e
      cases e
      split at h
      · rename_i l' e2
        cases h
        rw [natsD_eq e2]
        rfl
      · cases h
    · cases h
structure GoodL (most : Nat) (r : RS) : Prop where
  ex : ∃ ρ o us, r = .nx ρ ∧ ρ.length = 17 ∧ Dr o ∧ ρ[0]? = some (some o) ∧ ρ[1]? = some (some (on most)) ∧ ρ[6]? = some (some (.d (tn us))) ∧ us.length ≤ 60 ∧ (us.length ≤ 10 → Lat us)
theorem getR_eq {ρ : FL.Env} {i : Nat} {o : O} (h : getR (.nx ρ) i = some o) : ρ[i]? = some (some o) := by
  simp only [getR] at h
  split at h
  · rename_i o' e
    cases h
    exact e
  · cases h
theorem goodL_of {r : RS} {o : O} {most : Nat} (hd : Dr o) (h1 : okR r = true) (h2 : getR r 0 = some o) (h3 : getR r 1 = some (on most)) (h4 : lenR r = 17) : GoodL most r := by
  cases r with
  | nx ρ =>
    unfold okR at h1
    split at h1
    · rename_i us e
      unfold usR at e
      split at e
      · rename_i xs e6
        have e6 := getR_eq e6
        rw [natsD_eq e] at e6
        rw [Bool.and_eq_true, Bool.or_eq_true] at h1
        refine ⟨ρ, o, us, rfl, h4, hd, getR_eq h2, getR_eq h3, e6, Nat.le_of_ble_eq_true h1.1, fun hl => ?_⟩
        rcases h1.2 with q | q
        · rw [Nat.blt_eq] at q
          omega
        · exact lat_of q
      · cases e
    · cases h1
  | _ => cases h4
def E0 (o : O) (menu : Nat) (n3 p4 a7 b8 m9 : Option O) : FL.Env := [some o, some (on 10), some (on menu), n3, p4, none, none, a7, b8, m9, none, none, none, none, none, none, none]
def P0 : MS := (mSeq (mSet 4 (mCat (mLc (mWalk k1 (mCons (mVar 3) mNil)) (.n 5) [5] mYes (mTup (mCons (mC (.int 0)) (mCons (mVar 5) mNil)))) (mLc (mWalk k1 (mCons (mVar 3) mNil)) (.n 5) [5] mYes (mTup (mCons (mVar 5) (mCons (mOp oSub (mVar 3) (mC (.int 1))) mNil)))))) (mSet 6 (mCall [] 2 f_law_close (mCons (mVar 3) (mCons (mFz 4) mNil)))))
def P1 : MS := (mSeq (mSet 4 (mCat (mOp oAdd (mLstD (mCons (mTup (mCons (mC (.int 0)) (mCons (mC (.int 1)) mNil))) (mCons (mTup (mCons (mVar 7) (mCons (mOp oAdd (mOp oAdd (mVar 7) (mVar 8)) (mC (.int 1))) mNil))) (mCons (mTup (mCons (mC (.int 0)) (mCons (mOp oAdd (mVar 7) (mC (.int 1))) mNil))) mNil)))) (mLc (mWalk k2 (mCons (mC (.int 1)) (mCons (mVar 7) mNil))) (.n 5) [5] mYes (mTup (mCons (mVar 5) (mCons (mOp oAdd (mVar 5) (mC (.int 1))) mNil))))) (mLc (mWalk k2 (mCons (mOp oAdd (mVar 7) (mC (.int 1))) (mCons (mOp oAdd (mOp oAdd (mVar 7) (mVar 8)) (mC (.int 1))) mNil))) (.n 5) [5] mYes (mTup (mCons (mVar 5) (mCons (mOp oAdd (mVar 5) (mC (.int 1))) mNil)))))) (mSet 6 (mCall [] 2 f_law_close (mCons (mOp oAdd (mOp oAdd (mVar 7) (mVar 8)) (mC (.int 2))) (mCons (mFz 4) mNil)))))
def P2 : MS := (mSeq (mSet 4 (mLstO mNil)) (mSeq (mFor (mWalk k1 (mCons (mVar 9) mNil)) (.n 5) (mFor (mWalk k1 (mCons (mVar 3) mNil)) (.n 10) (mExpr (mExtend 4 (mCat (mLc (mWalk k2 (mCons (mVar 5) (mCons (mVar 9) mNil))) (.n 11) [11] mYes (mTup (mCons (mOp oAdd (mOp oMulI (mVar 5) (mVar 3)) (mVar 10)) (mCons (mOp oAdd (mOp oMulI (mVar 11) (mVar 3)) (mVar 10)) mNil)))) (mLc (mWalk k2 (mCons (mVar 10) (mCons (mVar 3) mNil))) (.n 11) [11] mYes (mTup (mCons (mOp oAdd (mOp oMulI (mVar 5) (mVar 3)) (mVar 10)) (mCons (mOp oAdd (mOp oMulI (mVar 5) (mVar 3)) (mVar 11)) mNil))))))))) (mSet 6 (mCall [] 2 f_law_close (mCons (mOp oMulI (mVar 9) (mVar 3)) (mCons (mFz 4) mNil))))))
def P6 : MS := (mSet 6 (mCall [] 2 f_law_close (mCons (mC (.int 8)) (mCons (mLstD (mCons (mTup (mCons (mC (.int 0)) (mCons (mC (.int 1)) mNil))) (mCons (mTup (mCons (mC (.int 0)) (mCons (mC (.int 2)) mNil))) (mCons (mTup (mCons (mC (.int 0)) (mCons (mC (.int 3)) mNil))) (mCons (mTup (mCons (mC (.int 1)) (mCons (mC (.int 4)) mNil))) (mCons (mTup (mCons (mC (.int 2)) (mCons (mC (.int 4)) mNil))) (mCons (mTup (mCons (mC (.int 2)) (mCons (mC (.int 5)) mNil))) (mCons (mTup (mCons (mC (.int 3)) (mCons (mC (.int 5)) mNil))) (mCons (mTup (mCons (mC (.int 4)) (mCons (mC (.int 6)) mNil))) (mCons (mTup (mCons (mC (.int 5)) (mCons (mC (.int 6)) mNil))) (mCons (mTup (mCons (mC (.int 1)) (mCons (mC (.int 6)) mNil))) (mCons (mTup (mCons (mC (.int 6)) (mCons (mC (.int 7)) mNil))) mNil)))))))))))) mNil))))

theorem p6 {o : O} (hd : Dr o) (menu : Nat) : GoodL 10 (P6 (E0 o menu none none none none none)) := goodL_of hd (by kernel_rfl) (by kernel_rfl) (by kernel_rfl) (by kernel_rfl)
theorem p0 {o : O} (hd : Dr o) (menu : Nat) : ∀ r, r < 5 → GoodL 10 (P0 (E0 o menu (some (on (2 + r))) none none none none))
  | 0, _ => goodL_of hd (by kernel_rfl) (by kernel_rfl) (by kernel_rfl) (by kernel_rfl)
  | 1, _ => goodL_of hd (by kernel_rfl) (by kernel_rfl) (by kernel_rfl) (by kernel_rfl)
  | 2, _ => goodL_of hd (by kernel_rfl) (by kernel_rfl) (by kernel_rfl) (by kernel_rfl)
  | 3, _ => goodL_of hd (by kernel_rfl) (by kernel_rfl) (by kernel_rfl) (by kernel_rfl)
  | 4, _ => goodL_of hd (by kernel_rfl) (by kernel_rfl) (by kernel_rfl) (by kernel_rfl)
  | r + 5, h => by omega
theorem p1 {o : O} (hd : Dr o) (menu : Nat) : ∀ r s, r < 3 → s < 3 → GoodL 10 (P1 (E0 o menu none none (some (on (1 + r))) (some (on (1 + s))) none))
  | 0, 0, _, _ => goodL_of hd (by kernel_rfl) (by kernel_rfl) (by kernel_rfl) (by kernel_rfl)
  | 0, 1, _, _ => goodL_of hd (by kernel_rfl) (by kernel_rfl) (by kernel_rfl) (by kernel_rfl)
  | 0, 2, _, _ => goodL_of hd (by kernel_rfl) (by kernel_rfl) (by kernel_rfl) (by kernel_rfl)
  | 1, 0, _, _ => goodL_of hd (by kernel_rfl) (by kernel_rfl) (by kernel_rfl) (by kernel_rfl)
  | 1, 1, _, _ => goodL_of hd (by kernel_rfl) (by kernel_rfl) (by kernel_rfl) (by kernel_rfl)
  | 1, 2, _, _ => goodL_of hd (by kernel_rfl) (by kernel_rfl) (by kernel_rfl) (by kernel_rfl)
  | 2, 0, _, _ => goodL_of hd (by kernel_rfl) (by kernel_rfl) (by kernel_rfl) (by kernel_rfl)
  | 2, 1, _, _ => goodL_of hd (by kernel_rfl) (by kernel_rfl) (by kernel_rfl) (by kernel_rfl)
  | 2, 2, _, _ => goodL_of hd (by kernel_rfl) (by kernel_rfl) (by kernel_rfl) (by kernel_rfl)
  | r + 3, _, h, _ => by omega
  | _, s + 3, _, h => by omega
theorem p2 {o : O} (hd : Dr o) (menu : Nat) : ∀ r s, r < 4 → s < 3 → GoodL 10 (P2 (E0 o menu (some (on (1 + s))) none none none (some (on (1 + r)))))
  | 0, 0, _, _ => goodL_of hd (by kernel_rfl) (by kernel_rfl) (by kernel_rfl) (by kernel_rfl)
  | 0, 1, _, _ => goodL_of hd (by kernel_rfl) (by kernel_rfl) (by kernel_rfl) (by kernel_rfl)
  | 0, 2, _, _ => goodL_of hd (by kernel_rfl) (by kernel_rfl) (by kernel_rfl) (by kernel_rfl)
  | 1, 0, _, _ => goodL_of hd (by kernel_rfl) (by kernel_rfl) (by kernel_rfl) (by kernel_rfl)
  | 1, 1, _, _ => goodL_of hd (by kernel_rfl) (by kernel_rfl) (by kernel_rfl) (by kernel_rfl)
  | 1, 2, _, _ => goodL_of hd (by kernel_rfl) (by kernel_rfl) (by kernel_rfl) (by kernel_rfl)
  | 2, 0, _, _ => goodL_of hd (by kernel_rfl) (by kernel_rfl) (by kernel_rfl) (by kernel_rfl)
  | 2, 1, _, _ => goodL_of hd (by kernel_rfl) (by kernel_rfl) (by kernel_rfl) (by kernel_rfl)
  | 2, 2, _, _ => goodL_of hd (by kernel_rfl) (by kernel_rfl) (by kernel_rfl) (by kernel_rfl)
  | 3, 0, _, _ => goodL_of hd (by kernel_rfl) (by kernel_rfl) (by kernel_rfl) (by kernel_rfl)
  | 3, 1, _, _ => goodL_of hd (by kernel_rfl) (by kernel_rfl) (by kernel_rfl) (by kernel_rfl)
  | 3, 2, _, _ => goodL_of hd (by kernel_rfl) (by kernel_rfl) (by kernel_rfl) (by kernel_rfl)
  | r + 4, _, h, _ => by omega
  | _, s + 3, _, h => by omega
end K50
end
section
set_option Elab.async false
set_option linter.all false
set_option maxRecDepth 100000
set_option autoImplicit false
set_option exponentiation.threshold 2000
namespace K50
open PySem FL
theorem seq_assoc {a b c : MS} {ρ : FL.Env} : mSeq a (mSeq b c) ρ = mSeq (mSeq a b) c ρ := by
  unfold mSeq
  cases a ρ <;> rfl
theorem order_at {o : O} (hd : Dr o) {most : Nat} (hm : most ≤ 5) {m : M} {ρ : FL.Env} (h : ρ[0]? = some (some o)) (e : m ρ = .ok (.o (on most)) ρ) : ∃ us o', mCall [0] 2 f_law_order (mCons (mVar 0) (mCons m mNil)) ρ = .ok (.o (.d (tn us))) (ρ.set 0 (some o')) ∧ us.length ≤ most ∧ Dr o' := by
  obtain ⟨us, n, o', e1, hf, hn, hd'⟩ := order_spec hd hm
  obtain ⟨xs, rfl⟩ := hd.own
  exact ⟨us, o', callD h (own_var h) e e1, by rw [hf.1]; exact hn, hd'⟩
theorem p3 {o : O} (hd : Dr o) (menu : Nat) : GoodL 10 ((mSet 6 (mCall [] 1 f_law_by_sets (mCons (mCall [] 1 f_law_down_sets (mCons (mCall [0] 2 f_law_order (mCons (mVar 0) (mCons (mC (.int 4)) mNil))) mNil)) mNil))) (E0 o menu none none none none none)) := by
  obtain ⟨us, o', e, hl, hd'⟩ := order_at hd (most := 4) (by omega) (m := mC (.int 4)) (ρ := E0 o menu none none none none none) rfl rfl
  have hp : 2 ^ us.length ≤ 2 ^ 4 := Nat.pow_le_pow_right (by omega) hl
  have hlen : (dsets us).length ≤ 2 ^ us.length := Nat.le_trans (List.length_filter_le _ _) (by simp)
  have hb : (bysets (dsets us)).length = (dsets us).length := by simp [bysets]
  exact ⟨_, o', bysets (dsets us), set_ok (call1 (call1 e (down_sets_spec us (by omega))) (by_sets_spec _ (by omega))), rfl, hd', rfl, rfl, rfl, by omega, fun _ => fam_lat (dsets_fam us)⟩
theorem p5 {o : O} (hd : Dr o) (menu : Nat) : GoodL 10 ((mSeq (mSet 16 (mCall [0] 2 f_law_order (mCons (mVar 0) (mCons (mC (.int 4)) mNil)))) (mSet 6 (mCall [] 1 f_law_by_sets (mCons (mCall [] 1 f_law_cuts (mCons (mVar 16) mNil)) mNil)))) (E0 o menu none none none none none)) := by
  obtain ⟨us, o', e, hl, hd'⟩ := order_at hd (most := 4) (by omega) (m := mC (.int 4)) (ρ := E0 o menu none none none none none) rfl rfl
  have hp : 2 ^ us.length ≤ 2 ^ 4 := Nat.pow_le_pow_right (by omega) hl
  have hlen : (cutsF us).length ≤ 2 ^ us.length := by
    have := sortN_length ((List.range (2 ^ us.length)).map (lowF us))
    rw [List.length_map, List.length_range] at this
    exact this
  have hb : (bysets (cutsF us)).length = (cutsF us).length := by simp [bysets]
  exact ⟨_, o', bysets (cutsF us), seq_nx (set_ok e) (set_ok (call1 (call1 (var_d rfl) (cuts_spec us (by omega))) (by_sets_spec _ (by omega)))), rfl, hd', rfl, rfl, rfl, by omega, fun _ => fam_lat (cuts_fam us)⟩
theorem p4 {o : O} (hd : Dr o) (menu : Nat) : GoodL 10 ((mSeq (mSet 12 (mOp oAdd (mLstD (mCons (mC (.int 15)) mNil)) (mLc (mWalk k1 (mCons (mCall [0] 2 f_law_take (mCons (mVar 0) (mCons (mC (.int 4)) mNil))) mNil)) (.n 13) [13] mYes (mCall [0] 2 f_law_take (mCons (mVar 0) (mCons (mC (.int 16)) mNil))))))
    (mSeq (mFor (mWalk k1 (mCons (mC (.int 3)) mNil)) (.n 14)
    (mSeq (mSet 15 (mLstO mNil))
    (mSeq (mFor (mItems (mVar 12)) (.n 7)
    (mExpr (mExtend 15 (mLc (mItems (mVar 12)) (.n 8) [8] mYes (mOp oAnd (mVar 7) (mVar 8))))))
    (mSet 12 (mFrz (mCallL lSortU (mCons (mOp oAdd (mVar 12) (mVar 15)) mNil)))))))
    (mSet 6 (mCall [] 1 f_law_by_sets (mCons (mVar 12) mNil))))) (E0 o menu none none none none none)) := by
  obtain ⟨o', rows, ρ', hd', hf, hl, ⟨a7, t14, m15, rfl⟩, e⟩ := kind4 hd (most := 10) (menu := menu)
  have hb : (bysets rows).length = rows.length := by simp [bysets]
  rw [seq_assoc]
  exact ⟨_, o', bysets rows, seq_nx e (set_ok (call1 (var_d rfl) (by_sets_spec rows (by omega)))), rfl, hd', rfl, rfl, rfl, by omega, fun _ => fam_lat hf⟩
theorem gl_if_t {t : Mb} {a b : MS} {ρ : FL.Env} {most : Nat} (h : t ρ = .ok true ρ) (g : GoodL most (a ρ)) : GoodL most (mIfS t a b ρ) := by
  rw [if_t h rfl]
  exact g
theorem gl_if_f {t : Mb} {a b : MS} {ρ : FL.Env} {most : Nat} (h : t ρ = .ok false ρ) (g : GoodL most (b ρ)) : GoodL most (mIfS t a b ρ) := by
  rw [if_f h rfl]
  exact g
theorem gl_seq {a b : MS} {ρ ρ1 : FL.Env} {most : Nat} (h : a ρ = .nx ρ1) (g : GoodL most (b ρ1)) : GoodL most (mSeq a b ρ) := by
  rw [seq_nx h rfl]
  exact g
theorem gl_eq {A B : MS} {o : O} {menu k : Nat} (g1 : menu = k → GoodL 10 (A (E0 o menu none none none none none))) (g2 : menu ≠ k → GoodL 10 (B (E0 o menu none none none none none))) : GoodL 10 (mIfS (mTst asB (mOp oEq (mVar 2) (mC (.int k)))) A B (E0 o menu none none none none none)) := by
  have t := oEq_n menu k
  by_cases h : menu = k
  · rw [show decide (menu = k) = true from decide_eq_true h] at t
    exact gl_if_t (tst (op2 (var_d rfl) rfl t)) (g1 h)
  · rw [show decide (menu = k) = false from decide_eq_false h] at t
    exact gl_if_f (tst (op2 (var_d rfl) rfl t)) (g2 h)
def IFS : MS := (mIfS (mTst asB (mOp oEq (mVar 2) (mC (.int 0)))) (mSeq (mSet 3 (mOp oAdd (mC (.int 2)) (mCall [0] 2 f_law_take (mCons (mVar 0) (mCons (mC (.int 5)) mNil))))) (mSeq (mSet 4 (mCat (mLc (mWalk k1 (mCons (mVar 3) mNil)) (.n 5) [5] mYes (mTup (mCons (mC (.int 0)) (mCons (mVar 5) mNil)))) (mLc (mWalk k1 (mCons (mVar 3) mNil)) (.n 5) [5] mYes (mTup (mCons (mVar 5) (mCons (mOp oSub (mVar 3) (mC (.int 1))) mNil)))))) (mSet 6 (mCall [] 2 f_law_close (mCons (mVar 3) (mCons (mFz 4) mNil)))))) (mIfS (mTst asB (mOp oEq (mVar 2) (mC (.int 1)))) (mSeq (mSet 7 (mOp oAdd (mC (.int 1)) (mCall [0] 2 f_law_take (mCons (mVar 0) (mCons (mC (.int 3)) mNil))))) (mSeq (mSet 8 (mOp oAdd (mC (.int 1)) (mCall [0] 2 f_law_take (mCons (mVar 0) (mCons (mC (.int 3)) mNil))))) (mSeq (mSet 4 (mCat (mOp oAdd (mLstD (mCons (mTup (mCons (mC (.int 0)) (mCons (mC (.int 1)) mNil))) (mCons (mTup (mCons (mVar 7) (mCons (mOp oAdd (mOp oAdd (mVar 7) (mVar 8)) (mC (.int 1))) mNil))) (mCons (mTup (mCons (mC (.int 0)) (mCons (mOp oAdd (mVar 7) (mC (.int 1))) mNil))) mNil)))) (mLc (mWalk k2 (mCons (mC (.int 1)) (mCons (mVar 7) mNil))) (.n 5) [5] mYes (mTup (mCons (mVar 5) (mCons (mOp oAdd (mVar 5) (mC (.int 1))) mNil))))) (mLc (mWalk k2 (mCons (mOp oAdd (mVar 7) (mC (.int 1))) (mCons (mOp oAdd (mOp oAdd (mVar 7) (mVar 8)) (mC (.int 1))) mNil))) (.n 5) [5] mYes (mTup (mCons (mVar 5) (mCons (mOp oAdd (mVar 5) (mC (.int 1))) mNil)))))) (mSet 6 (mCall [] 2 f_law_close (mCons (mOp oAdd (mOp oAdd (mVar 7) (mVar 8)) (mC (.int 2))) (mCons (mFz 4) mNil))))))) (mIfS (mTst asB (mOp oEq (mVar 2) (mC (.int 2)))) (mSeq (mSet 9 (mOp oAdd (mC (.int 1)) (mCall [0] 2 f_law_take (mCons (mVar 0) (mCons (mC (.int 4)) mNil))))) (mSeq (mSet 3 (mOp oAdd (mC (.int 1)) (mCall [0] 2 f_law_take (mCons (mVar 0) (mCons (mC (.int 3)) mNil))))) (mSeq (mSet 4 (mLstO mNil)) (mSeq (mFor (mWalk k1 (mCons (mVar 9) mNil)) (.n 5) (mFor (mWalk k1 (mCons (mVar 3) mNil)) (.n 10) (mExpr (mExtend 4 (mCat (mLc (mWalk k2 (mCons (mVar 5) (mCons (mVar 9) mNil))) (.n 11) [11] mYes (mTup (mCons (mOp oAdd (mOp oMulI (mVar 5) (mVar 3)) (mVar 10)) (mCons (mOp oAdd (mOp oMulI (mVar 11) (mVar 3)) (mVar 10)) mNil)))) (mLc (mWalk k2 (mCons (mVar 10) (mCons (mVar 3) mNil))) (.n 11) [11] mYes (mTup (mCons (mOp oAdd (mOp oMulI (mVar 5) (mVar 3)) (mVar 10)) (mCons (mOp oAdd (mOp oMulI (mVar 5) (mVar 3)) (mVar 11)) mNil))))))))) (mSet 6 (mCall [] 2 f_law_close (mCons (mOp oMulI (mVar 9) (mVar 3)) (mCons (mFz 4) mNil)))))))) (mIfS (mTst asB (mOp oEq (mVar 2) (mC (.int 3)))) (mSet 6 (mCall [] 1 f_law_by_sets (mCons (mCall [] 1 f_law_down_sets (mCons (mCall [0] 2 f_law_order (mCons (mVar 0) (mCons (mC (.int 4)) mNil))) mNil)) mNil))) (mIfS (mTst asB (mOp oEq (mVar 2) (mC (.int 4)))) (mSeq (mSet 12 (mOp oAdd (mLstD (mCons (mC (.int 15)) mNil)) (mLc (mWalk k1 (mCons (mCall [0] 2 f_law_take (mCons (mVar 0) (mCons (mC (.int 4)) mNil))) mNil)) (.n 13) [13] mYes (mCall [0] 2 f_law_take (mCons (mVar 0) (mCons (mC (.int 16)) mNil)))))) (mSeq (mFor (mWalk k1 (mCons (mC (.int 3)) mNil)) (.n 14) (mSeq (mSet 15 (mLstO mNil)) (mSeq (mFor (mItems (mVar 12)) (.n 7) (mExpr (mExtend 15 (mLc (mItems (mVar 12)) (.n 8) [8] mYes (mOp oAnd (mVar 7) (mVar 8)))))) (mSet 12 (mFrz (mCallL lSortU (mCons (mOp oAdd (mVar 12) (mVar 15)) mNil))))))) (mSet 6 (mCall [] 1 f_law_by_sets (mCons (mVar 12) mNil))))) (mIfS (mTst asB (mOp oEq (mVar 2) (mC (.int 5)))) (mSeq (mSet 16 (mCall [0] 2 f_law_order (mCons (mVar 0) (mCons (mC (.int 4)) mNil)))) (mSet 6 (mCall [] 1 f_law_by_sets (mCons (mCall [] 1 f_law_cuts (mCons (mVar 16) mNil)) mNil)))) (mSet 6 (mCall [] 2 f_law_close (mCons (mC (.int 8)) (mCons (mLstD (mCons (mTup (mCons (mC (.int 0)) (mCons (mC (.int 1)) mNil))) (mCons (mTup (mCons (mC (.int 0)) (mCons (mC (.int 2)) mNil))) (mCons (mTup (mCons (mC (.int 0)) (mCons (mC (.int 3)) mNil))) (mCons (mTup (mCons (mC (.int 1)) (mCons (mC (.int 4)) mNil))) (mCons (mTup (mCons (mC (.int 2)) (mCons (mC (.int 4)) mNil))) (mCons (mTup (mCons (mC (.int 2)) (mCons (mC (.int 5)) mNil))) (mCons (mTup (mCons (mC (.int 3)) (mCons (mC (.int 5)) mNil))) (mCons (mTup (mCons (mC (.int 4)) (mCons (mC (.int 6)) mNil))) (mCons (mTup (mCons (mC (.int 5)) (mCons (mC (.int 6)) mNil))) (mCons (mTup (mCons (mC (.int 1)) (mCons (mC (.int 6)) mNil))) (mCons (mTup (mCons (mC (.int 6)) (mCons (mC (.int 7)) mNil))) mNil)))))))))))) mNil))))))))))
theorem lattice_body {o : O} (hd : Dr o) (menu : Nat) : GoodL 10 (IFS (E0 o menu none none none none none)) := by
  refine gl_eq (fun _ => ?_) fun _ => gl_eq (fun _ => ?_) fun _ => gl_eq (fun _ => ?_) fun _ => gl_eq (fun _ => p3 hd menu) fun _ => gl_eq (fun _ => p4 hd menu) fun _ => gl_eq (fun _ => p5 hd menu) fun _ => p6 hd menu
  · obtain ⟨r, o', e, hr, hd'⟩ := take_at hd (j := 0) (m := mC (.int 5)) (many := 5) (ρ := E0 o menu none none none none none) rfl rfl (by omega) (by omega)
    exact gl_seq (set_ok (op2 rfl e (oAdd_n 2 r))) (p0 hd' menu r hr)
  · obtain ⟨r, o', e, hr, hd'⟩ := take_at hd (j := 0) (m := mC (.int 3)) (many := 3) (ρ := E0 o menu none none none none none) rfl rfl (by omega) (by omega)
    obtain ⟨r2, o2, e2, hr2, hd2⟩ := take_at hd' (j := 0) (m := mC (.int 3)) (many := 3) (ρ := E0 o' menu none none (some (on (1 + r))) none none) rfl rfl (by omega) (by omega)
    exact gl_seq (set_ok (op2 rfl e (oAdd_n 1 r))) (gl_seq (set_ok (op2 rfl e2 (oAdd_n 1 r2))) (p1 hd2 menu r r2 hr hr2))
  · obtain ⟨r, o', e, hr, hd'⟩ := take_at hd (j := 0) (m := mC (.int 4)) (many := 4) (ρ := E0 o menu none none none none none) rfl rfl (by omega) (by omega)
    obtain ⟨r2, o2, e2, hr2, hd2⟩ := take_at hd' (j := 0) (m := mC (.int 3)) (many := 3) (ρ := E0 o' menu none none none none (some (on (1 + r)))) rfl rfl (by omega) (by omega)
    exact gl_seq (set_ok (op2 rfl e (oAdd_n 1 r))) (gl_seq (set_ok (op2 rfl e2 (oAdd_n 1 r2))) (p2 hd2 menu r r2 hr hr2))
/-- every lattice drawn is one, of 1 to 8 points -/
theorem lattice_spec {o : O} (hd : Dr o) : ∃ us o', f_law_lattice [o, on 10] = .ok (.d (tn us)) [o'] ∧ Lat us ∧ us.length ≤ 10 ∧ Dr o' := by
  obtain ⟨menu, o1, e1, hmenu, hd1⟩ := take_at hd (j := 0) (m := mC (.int 7)) (many := 7) (ρ := [some o, some (on 10), none, none, none, none, none, none, none, none, none, none, none, none, none, none, none]) rfl rfl (by omega) (by omega)
  obtain ⟨ρ, o2, us, e2, hlen, hd2, h0, h1, h6, hl60, hlat⟩ := (lattice_body hd1 menu).ex
  have l6 : mCallB fLen (mCons (mVar 6) mNil) ρ = .ok (.o (on us.length)) ρ := len_tn (var_d h6)
  -- the end, once the order is right
  have fin : ∀ (ρ : FL.Env) (us : List Nat), ρ[0]? = some (some o2) → ρ[6]? = some (some (.d (tn us))) → 0 < ρ.length → Lat us → us.length ≤ 10 → ∃ us' o' ρ', (mRet (mCall [] 2 f_law_named (mCons (mVar 6) (mCons (mCall [0] 2 f_law_shuffled (mCons (mVar 0) (mCons (mCallB fLen (mCons (mVar 6) mNil)) mNil))) mNil)))) ρ = .rt (.d (tn us')) ρ' ∧ outsE [0] ρ' = some [o'] ∧ Lat us' ∧ us'.length ≤ 10 ∧ Dr o' := fun ρ us h0 h6 hpos hL hl => by
    obtain ⟨p, o3, e3, hp, hd3⟩ := shuffled_spec hd2 (n := us.length) (by omega)
    obtain ⟨xs2, rfl⟩ := hd2.own
    have e4 := named_spec us p (by omega) hp hL.bits
    have hf := named_form (us := us) (n := us.length) ⟨rfl, hL.bits⟩ hp
    refine ⟨named us p, o3, _, ret_ok (call2 (var_d h6) (callD h0 (own_var h0) (len_tn (var_d h6)) e3) e4), ?_, named_lat hL hp, by rw [hf.1]; exact hl, hd3⟩
    unfold outsE
    rw [List.getElem?_set_self hpos]
    rfl
  by_cases hbig : us.length ≤ 10
  · have hL := hlat hbig
    have t1 := oGt_n us.length 10
    rw [show decide (10 < us.length) = false from decide_eq_false (by omega)] at t1
    have t2 := oEq_n us.length 0
    rw [show decide (us.length = 0) = false from decide_eq_false (by have := hL.pos; omega)] at t2
    obtain ⟨us', o', ρ', e5, ho, hL', hl', hd'⟩ := fin ρ us h0 h6 (by omega) hL hbig
    exact ⟨us', o', fn_rt (seq_nx (set_ok e1) (seq_nx e2 (seq_nx (if_f (or_f (tst (op2 l6 (var_d h1) t1)) (tst (op2 l6 rfl t2))) rfl) e5))) ho, hL', hl', hd'⟩
  · have t1 := oGt_n us.length 10
    rw [show decide (10 < us.length) = true from decide_eq_true (by omega)] at t1
    obtain ⟨us', o', ρ', e5, ho, hL', hl', hd'⟩ := fin (ρ.set 6 (some (.d (tn [3, 2])))) [3, 2] (by rw [List.getElem?_set_ne (by omega)]; exact h0) (List.getElem?_set_self (by omega)) (by rw [List.length_set]; omega) (lat_of (by rfl)) (by simp)
    exact ⟨us', o', fn_rt (seq_nx (set_ok e1) (seq_nx e2 (seq_nx (if_t (or_t (tst (op2 l6 (var_d h1) t1))) (set_ok (tup_ok (xs := [.o (on 3), .o (on 2)]) (ys := [dn 3, dn 2]) (ms_cons rfl (ms_cons rfl ms_nil)) rfl rfl))) e5))) ho, hL', hl', hd'⟩
end K50
end
section
set_option Elab.async false
set_option linter.all false
set_option maxRecDepth 100000
set_option autoImplicit false
set_option exponentiation.threshold 2000
namespace K50
open PySem FL
/-! ### the least of a set -/
theorem least_some {us : List Nat} (L : Lat us) {b z : Nat} (hb : b < 2 ^ us.length) (hz : b.testBit z = true) (hm : ∀ w, b.testBit w = true → le us z w = true) : leastF us b = some z := by
  have lt : ∀ w, b.testBit w = true → w < us.length := fun w hw => by
    have := mem_bl.mpr hw
    rw [bl_eq hb] at this
    exact (mem_pos.mp this).1
  have good : ∀ p, b.testBit p = true → (b &&& us.getD p 0 = b ↔ ∀ w, b.testBit w = true → le us p w = true) := fun p _ => sub_iff
  unfold leastF
  cases e : (bl b).find? fun p => decide (b &&& us.getD p 0 = b) with
  | none =>
    have := List.find?_eq_none.mp e z (mem_bl.mpr hz)
    rw [decide_eq_true_eq] at this
    exact absurd ((good z hz).mpr hm) this
  | some p =>
    have h1 := List.find?_some e
    have h2 := mem_bl.mp (List.mem_of_find?_eq_some e)
    rw [decide_eq_true_eq, good p h2] at h1
    rw [L.anti p z (lt p h2) (lt z hz) (h1 z hz) (hm p h2)]
theorem least_inv {us : List Nat} {b z : Nat} (e : leastF us b = some z) : b.testBit z = true ∧ ∀ w, b.testBit w = true → le us z w = true := by
  unfold leastF at e
  have h1 := List.find?_some e
  have h2 := mem_bl.mp (List.mem_of_find?_eq_some e)
  rw [decide_eq_true_eq] at h1
  exact ⟨h2, sub_iff.mp h1⟩
theorem dual_le {us : List Nat} {x y : Nat} (hx : x < us.length) (hy : y < us.length) : le (dual us) x y = le us y x := by
  unfold le
  rw [dual_bit hx, decide_eq_true hy, Bool.true_and]
theorem dual_len (us : List Nat) : (dual us).length = us.length := (dual_form us).1
theorem dual_lat {us : List Nat} (L : Lat us) : Lat (dual us) := by
  have hn := dual_len us
  refine ⟨by rw [hn]; exact L.pos, fun x hx => by rw [hn] at hx ⊢; exact (dual_form us).2 x hx, fun x hx => ?_, fun x y z hx hy hz a b => ?_, fun x y hx hy a b => ?_, fun x y hx hy => ?_, fun x y hx hy => ?_⟩
  · rw [hn] at hx
    rw [dual_le hx hx]
    exact L.refl x hx
  · rw [hn] at hx hy hz
    rw [dual_le hx hy] at a
    rw [dual_le hy hz] at b
    rw [dual_le hx hz]
    exact L.trans z y x hz hy hx b a
  · rw [hn] at hx hy
    rw [dual_le hx hy] at a
    rw [dual_le hy hx] at b
    exact L.anti x y hx hy b a
  · rw [hn] at hx hy ⊢
    obtain ⟨z, hz, a, b, m⟩ := L.meet x y hx hy
    refine ⟨z, hz, by rw [dual_le hx hz]; exact a, by rw [dual_le hy hz]; exact b, fun w hw c d => ?_⟩
    rw [dual_le hx hw] at c
    rw [dual_le hy hw] at d
    rw [dual_le hz hw]
    exact m w hw c d
  · rw [hn] at hx hy ⊢
    obtain ⟨z, hz, a, b, m⟩ := L.join x y hx hy
    refine ⟨z, hz, by rw [dual_le hz hx]; exact a, by rw [dual_le hz hy]; exact b, fun w hw c d => ?_⟩
    rw [dual_le hw hx] at c
    rw [dual_le hw hy] at d
    rw [dual_le hw hz]
    exact m w hw c d
def jn (us : List Nat) (x y : Nat) : Nat := (leastF us (us.getD x 0 &&& us.getD y 0)).getD 0
def mt (us : List Nat) (x y : Nat) : Nat := jn (dual us) x y
theorem Lat.lt {us : List Nat} (L : Lat us) {x w : Nat} (hx : x < us.length) (h : le us x w = true) : w < us.length := by
  have hb := L.bits x hx
  have := mem_bl.mpr h
  rw [bl_eq hb] at this
  exact (mem_pos.mp this).1
theorem jn_spec {us : List Nat} (L : Lat us) {x y : Nat} (hx : x < us.length) (hy : y < us.length) : leastF us (us.getD x 0 &&& us.getD y 0) = some (jn us x y) ∧ jn us x y < us.length ∧ le us x (jn us x y) = true ∧ le us y (jn us x y) = true ∧ ∀ w, w < us.length → le us x w = true → le us y w = true → le us (jn us x y) w = true := by
  obtain ⟨z, hz, a, b, m⟩ := L.join x y hx hy
  have hb : us.getD x 0 &&& us.getD y 0 < 2 ^ us.length := Nat.lt_of_le_of_lt Nat.and_le_left (L.bits x hx)
  have e := least_some L (b := us.getD x 0 &&& us.getD y 0) hb (z := z) (by rw [Nat.testBit_and, Bool.and_eq_true]; exact ⟨a, b⟩) (fun w hw => by
    rw [Nat.testBit_and, Bool.and_eq_true] at hw
    exact m w (L.lt hx hw.1) hw.1 hw.2)
  have ej : jn us x y = z := by unfold jn; rw [e]; rfl
  rw [ej]
  exact ⟨e, hz, a, b, m⟩
theorem mt_spec {us : List Nat} (L : Lat us) {x y : Nat} (hx : x < us.length) (hy : y < us.length) : leastF (dual us) ((dual us).getD x 0 &&& (dual us).getD y 0) = some (mt us x y) ∧ mt us x y < us.length ∧ le us (mt us x y) x = true ∧ le us (mt us x y) y = true ∧ ∀ w, w < us.length → le us w x = true → le us w y = true → le us w (mt us x y) = true := by
  have hn := dual_len us
  obtain ⟨e, hz, a, b, m⟩ := jn_spec (dual_lat L) (x := x) (y := y) (by rw [hn]; exact hx) (by rw [hn]; exact hy)
  have hz' : mt us x y < us.length := by rw [hn] at hz; exact hz
  refine ⟨e, hz', ?_, ?_, fun w hw c d => ?_⟩
  · rw [← dual_le hx hz']; exact a
  · rw [← dual_le hy hz']; exact b
  · rw [← dual_le hz' hw]
    refine m w (by rw [hn]; exact hw) ?_ ?_
    · rw [dual_le hx hw]; exact c
    · rw [dual_le hy hw]; exact d
/-! ### the tables -/
def tab (n : Nat) (f : Nat → Nat → Nat) : List (List Nat) := (List.range n).map fun x => (List.range n).map fun y => f x y
theorem tab_get {n : Nat} {f : Nat → Nat → Nat} {x : Nat} (hx : x < n) : (tab n f)[x]? = some ((List.range n).map fun y => f x y) := by
  unfold tab
  rw [List.getElem?_map, List.getElem?_eq_getElem (by simpa using hx)]
  simp
theorem ix_tabL {n : Nat} {f : Nat → Nat → Nat} {x : Nat} (hx : x < n) : oIx (.list ((tab n f).map ln)) (dn x) = some (ln ((List.range n).map fun y => f x y)) := by
  rw [oIx_l, List.getElem?_map, tab_get hx]
  rfl
theorem ix_tabT {n : Nat} {f : Nat → Nat → Nat} {x : Nat} (hx : x < n) : oIx (.tuple ((tab n f).map tn)) (dn x) = some (tn ((List.range n).map fun y => f x y)) := by
  rw [oIx_t, List.getElem?_map, tab_get hx]
  rfl
theorem getD_range {n : Nat} {f : Nat → Nat} {y : Nat} (hy : y < n) : ((List.range n).map f).getD y 0 = f y := by
  rw [getD_at (by simpa using hy)]
  simp
def tabP (n : Nat) (f : Nat → Nat → Nat) : PyData := .tuple ((tab n f).map tn)
theorem paper_spec {us : List Nat} (L : Lat us) (hn8 : us.length ≤ 100) : f_lattice_paper [.d (tn us)] = .ok (.d (.tuple [.str "lattice", tabP us.length (mt us), tabP us.length (jn us)])) [] := by
  have hn := dual_len us
  have hD := dual_lat L
  have b1000 : ∀ b, b < 2 ^ us.length → b < 2 ^ 1000 := fun b hb => Nat.lt_of_lt_of_le hb (Nat.pow_le_pow_right (by omega) (by omega))
  have t0 := oEq_n us.length 0
  rw [show decide (us.length = 0) = false from decide_eq_false (by have := L.pos; omega)] at t0
  -- a table by least_of
  have row : ∀ (vs : List Nat) (sl : Nat) (ρ : FL.Env) (x : Nat), Lat vs → vs.length = us.length → x < us.length → ρ[sl]? = some (some (.d (tn vs))) → ρ[1]? = some (some (.rg 0 (us.length : Int))) → ρ[5]? = some (some (on x)) → ρ[4]? = some none → sl ≠ 4 →
      mFrz (mLc (mWalkRg (mVar 1)) (.n 4) [4] mYes (mCall [] 2 f_least_of (mCons (mVar sl) (mCons (mOp oAnd (mOp oIx (mVar sl) (mVar 5)) (mOp oIx (mVar sl) (mVar 4))) mNil)))) ρ = .ok (.o (.d (ln ((List.range us.length).map fun y => jn vs x y)))) ρ := by
    intro vs sl ρ x LV hv hx h0 h1 h5 h4 hsl
    have l4 : 4 < ρ.length := (List.getElem?_eq_some_iff.mp h4).1
    have hm := lc_map (mi := mWalkRg (mVar 1)) (j := 4) (e := mCall [] 2 f_least_of (mCons (mVar sl) (mCons (mOp oAnd (mOp oIx (mVar sl) (mVar 5)) (mOp oIx (mVar sl) (mVar 4))) mNil))) (ρ := ρ) (l := List.range us.length) (fun y => dn (jn vs x y)) (walkRg_ok h1 (by omega)) h4 (fun y hy => by
      have hy := List.mem_range.mp hy
      have g0 : (ρ.set 4 (some (on y)))[sl]? = some (some (.d (tn vs))) := by rw [List.getElem?_set_ne (by omega)]; exact h0
      have g5 : (ρ.set 4 (some (on y)))[5]? = some (some (on x)) := by rw [List.getElem?_set_ne (by omega)]; exact h5
      have g4 : (ρ.set 4 (some (on y)))[4]? = some (some (on y)) := List.getElem?_set_self l4
      obtain ⟨e, hz, _⟩ := jn_spec LV (x := x) (y := y) (by omega) (by omega)
      have hb : vs.getD x 0 &&& vs.getD y 0 < 2 ^ vs.length := Nat.lt_of_le_of_lt Nat.and_le_left (LV.bits x (by omega))
      have hs := least_spec vs (vs.getD x 0 &&& vs.getD y 0) (b1000 _ (by rw [← hv]; exact hb)) (fun i hi => by rw [bl_eq hb] at hi; exact (mem_pos.mp hi).1)
      rw [e] at hs
      exact call2 (var_d g0) (op2 (op2 (var_d g0) (var_d g5) (ix_t (by omega))) (op2 (var_d g0) (var_d g4) (ix_t (by omega))) (oAnd_n _ _)) hs) (by rw [List.length_range]; omega)
    rw [map_dn (fun y => jn vs x y), List.map_map] at hm
    exact frz_on hm
  have table : ∀ (vs : List Nat) (sl : Nat) (ρ : FL.Env), Lat vs → vs.length = us.length → ρ[sl]? = some (some (.d (tn vs))) → ρ[1]? = some (some (.rg 0 (us.length : Int))) → ρ[5]? = some none → ρ[4]? = some none → sl ≠ 4 → sl ≠ 5 →
      mFrz (mLc (mWalkRg (mVar 1)) (.n 5) [5] mYes (mFrz (mLc (mWalkRg (mVar 1)) (.n 4) [4] mYes (mCall [] 2 f_least_of (mCons (mVar sl) (mCons (mOp oAnd (mOp oIx (mVar sl) (mVar 5)) (mOp oIx (mVar sl) (mVar 4))) mNil)))))) ρ = .ok (.o (.d (.list ((tab us.length (jn vs)).map ln)))) ρ := by
    intro vs sl ρ LV hv h0 h1 h5 h4 hsl hsl5
    have l5 : 5 < ρ.length := (List.getElem?_eq_some_iff.mp h5).1
    have hm := lc_map (mi := mWalkRg (mVar 1)) (j := 5) (e := mFrz (mLc (mWalkRg (mVar 1)) (.n 4) [4] mYes (mCall [] 2 f_least_of (mCons (mVar sl) (mCons (mOp oAnd (mOp oIx (mVar sl) (mVar 5)) (mOp oIx (mVar sl) (mVar 4))) mNil))))) (ρ := ρ) (l := List.range us.length) (fun x => ln ((List.range us.length).map fun y => jn vs x y)) (walkRg_ok h1 (by omega)) h5 (fun x hx => row vs sl _ x LV hv (List.mem_range.mp hx) (by rw [List.getElem?_set_ne (by omega)]; exact h0) (by rw [List.getElem?_set_ne (by omega)]; exact h1) (List.getElem?_set_self l5) (by rw [List.getElem?_set_ne (by omega)]; exact h4) hsl) (by rw [List.length_range]; omega)
    have ed : ((List.range us.length).map fun x => O.d (ln ((List.range us.length).map fun y => jn vs x y))) = ((tab us.length (jn vs)).map ln).map O.d := by
      unfold tab
      rw [List.map_map, List.map_map]
      rfl
    rw [ed] at hm
    exact frz_d hm
  have lenE : ∀ ρ : FL.Env, ρ[0]? = some (some (.d (tn us))) → mCallB fLen (mCons (mVar 0) mNil) ρ = .ok (.o (on us.length)) ρ := fun ρ h => len_tn (var_d h)
  let J : PyData := .list ((tab us.length (jn us)).map ln)
  let Mt : PyData := .list ((tab us.length (mt us)).map ln)
  -- no None in the tables
  have nojoin : ∀ (x y : Nat) , x < us.length → y < us.length → (mSeq (mIfS (mTst asB (mOp oIsN (mOp oIx (mOp oIx (mVar 3) (mVar 5)) (mVar 4)) (mC .none))) (mRet (mTup (mCons (mC (.str "join")) (mCons (mVar 5) (mCons (mVar 4) mNil))))) mSkip) (mIfS (mTst asB (mOp oIsN (mOp oIx (mOp oIx (mVar 6) (mVar 5)) (mVar 4)) (mC .none))) (mRet (mTup (mCons (mC (.str "meet")) (mCons (mVar 5) (mCons (mVar 4) mNil))))) mSkip)) [some (.d (tn us)), some (.rg 0 (us.length : Int)), some (.d (tn (dual us))), some (.d J), some (on y), some (on x), some (.d Mt), none] = .nx [some (.d (tn us)), some (.rg 0 (us.length : Int)), some (.d (tn (dual us))), some (.d J), some (on y), some (on x), some (.d Mt), none] := fun x y hx hy =>
    seq_nx (if_f (tst (op2 (op2 (op2 (var_d rfl) (var_d rfl) (ix_tabL hx)) (var_d rfl) (ix_l (by simpa using hy))) rfl (oIsN_n _))) rfl) (if_f (tst (op2 (op2 (op2 (var_d rfl) (var_d rfl) (ix_tabL hx)) (var_d rfl) (ix_l (by simpa using hy))) rfl (oIsN_n _))) rfl)
  obtain ⟨ρ', e, x4, x5, rfl⟩ := forL_inv (tg := .n 5) (b := mFor (mWalkRg (mVar 1)) (.n 4) (mSeq (mIfS (mTst asB (mOp oIsN (mOp oIx (mOp oIx (mVar 3) (mVar 5)) (mVar 4)) (mC .none))) (mRet (mTup (mCons (mC (.str "join")) (mCons (mVar 5) (mCons (mVar 4) mNil))))) mSkip) (mIfS (mTst asB (mOp oIsN (mOp oIx (mOp oIx (mVar 6) (mVar 5)) (mVar 4)) (mC .none))) (mRet (mTup (mCons (mC (.str "meet")) (mCons (mVar 5) (mCons (mVar 4) mNil))))) mSkip)))
    (fun i ρ => ∃ x4 x5, ρ = [some (.d (tn us)), some (.rg 0 (us.length : Int)), some (.d (tn (dual us))), some (.d J), x4, x5, some (.d Mt), none]) (items := (List.range us.length).map dn) (ρ := [some (.d (tn us)), some (.rg 0 (us.length : Int)), some (.d (tn (dual us))), some (.d J), none, none, some (.d Mt), none]) (by
      rintro i d ρ hdi ⟨x4, x5, rfl⟩
      obtain ⟨hi, rfl⟩ := map_at hdi
      have hx : (List.range us.length)[i] < us.length := List.mem_range.mp (List.getElem_mem hi)
      obtain ⟨ρ'', e2, x4', rfl⟩ := forL_inv (tg := .n 4) (b := mSeq (mIfS (mTst asB (mOp oIsN (mOp oIx (mOp oIx (mVar 3) (mVar 5)) (mVar 4)) (mC .none))) (mRet (mTup (mCons (mC (.str "join")) (mCons (mVar 5) (mCons (mVar 4) mNil))))) mSkip) (mIfS (mTst asB (mOp oIsN (mOp oIx (mOp oIx (mVar 6) (mVar 5)) (mVar 4)) (mC .none))) (mRet (mTup (mCons (mC (.str "meet")) (mCons (mVar 5) (mCons (mVar 4) mNil))))) mSkip))
        (fun k ρ => ∃ x4, ρ = [some (.d (tn us)), some (.rg 0 (us.length : Int)), some (.d (tn (dual us))), some (.d J), x4, some (on (List.range us.length)[i]), some (.d Mt), none]) (items := (List.range us.length).map dn) (ρ := [some (.d (tn us)), some (.rg 0 (us.length : Int)), some (.d (tn (dual us))), some (.d J), x4, some (on (List.range us.length)[i]), some (.d Mt), none]) (by
          rintro k d ρ hdk ⟨x4, rfl⟩
          obtain ⟨hk, rfl⟩ := map_at hdk
          exact ⟨_, _, rfl, .inl (nojoin _ _ hx (List.mem_range.mp (List.getElem_mem hk))), _, rfl⟩) ⟨x4, rfl⟩
      exact ⟨_, _, rfl, .inl (for_ok (walkRg_ok rfl (by omega)) e2), _, _, rfl⟩) ⟨none, none, rfl⟩
  have tl : ∀ f : Nat → Nat → Nat, (tab us.length f).length ≤ 16777216 := fun f => by simp [tab]; omega
  have rJ := tuple_on (lc_rows (mi := mItems (mVar 3)) (j := 7) (ρ := [some (.d (tn us)), some (.rg 0 (us.length : Int)), some (.d (tn (dual us))), some (.d J), x4, x5, some (.d Mt), none]) (T := tab us.length (jn us)) (items_l (var_d rfl)) rfl (tl _))
  have rM := tuple_on (lc_rows (mi := mItems (mVar 6)) (j := 7) (ρ := [some (.d (tn us)), some (.rg 0 (us.length : Int)), some (.d (tn (dual us))), some (.d J), x4, x5, some (.d Mt), none]) (T := tab us.length (mt us)) (items_l (var_d rfl)) rfl (tl _))
  have t1 := table us 0 [some (.d (tn us)), some (.rg 0 (us.length : Int)), some (.d (tn (dual us))), none, none, none, none, none] L rfl rfl rfl rfl rfl (by omega) (by omega)
  have t2 := table (dual us) 2 [some (.d (tn us)), some (.rg 0 (us.length : Int)), some (.d (tn (dual us))), some (.d J), none, none, none, none] hD hn rfl rfl rfl rfl (by omega) (by omega)
  exact fn_rt (seq_nx (if_f (tst (op2 (lenE _ rfl) rfl t0)) rfl) (seq_nx (set_ok (rg_ok (lenE _ rfl))) (seq_nx (set_ok (call1 (var_d rfl) (below_spec us (by omega)))) (seq_nx (set_ok t1) (seq_nx (set_ok t2) (seq_nx (for_ok (walkRg_ok rfl (by omega)) e) (ret_ok (tup_ok (ms_cons rfl (ms_cons rM (ms_cons rJ ms_nil))) rfl rfl)))))))) rfl
theorem tables_spec {us : List Nat} (L : Lat us) (hn8 : us.length ≤ 100) : f_tables_of [.d (tn us)] = .ok (.d (.tuple [tabP us.length (mt us), tabP us.length (jn us)])) [] := by
  have ne : oNe (.str "lattice") (.str "lattice") = some (.bool false) := by kernel_rfl
  exact fn_rt (seq_nx (set_ok (call1 (var_d rfl) (paper_spec L hn8))) (seq_nx (if_f (tst (op2 (op2 (var_d rfl) rfl (by rw [show PyData.int 0 = dn 0 from rfl, oIx_t]; rfl)) rfl ne)) rfl) (ret_ok (tup_ok (ms_cons (op2 (var_d rfl) rfl (by rw [show PyData.int 1 = dn 1 from rfl, oIx_t]; rfl)) (ms_cons (op2 (var_d rfl) rfl (by rw [show PyData.int 2 = dn 2 from rfl, oIx_t]; rfl)) ms_nil)) rfl rfl)))) rfl
end K50
end
section
set_option Elab.async false
set_option linter.all false
set_option maxRecDepth 100000
set_option autoImplicit false
set_option exponentiation.threshold 2000
namespace K50
open PySem FL
theorem Lat.least {us : List Nat} (L : Lat us) : ∃ z, z < us.length ∧ ∀ w, w < us.length → le us z w = true := by
  have go : ∀ k, k ≤ us.length → 0 < k → ∃ z, z < us.length ∧ ∀ w, w < k → le us z w = true := by
    intro k
    induction k with
    | zero => intro _ h; omega
    | succ k ih =>
      intro hk _
      by_cases h0 : k = 0
      · subst h0
        refine ⟨0, hk, fun w hw => ?_⟩
        rw [show w = 0 by omega]
        exact L.refl 0 hk
      · obtain ⟨z, hz, h⟩ := ih (by omega) (by omega)
        obtain ⟨m, hm, a, b, _⟩ := L.meet z k hz (by omega)
        refine ⟨m, hm, fun w hw => ?_⟩
        by_cases e : w = k
        · rw [e]; exact b
        · exact L.trans m z w hm hz (by omega) a (h w (by omega))
  exact go us.length (Nat.le_refl _) L.pos
def bot (us : List Nat) : Nat := (leastF us (2 ^ us.length - 1)).getD 0
def topF (us : List Nat) : Nat := bot (dual us)
theorem bot_spec {us : List Nat} (L : Lat us) : leastF us (2 ^ us.length - 1) = some (bot us) ∧ bot us < us.length ∧ ∀ w, w < us.length → le us (bot us) w = true := by
  obtain ⟨z, hz, h⟩ := L.least
  have hp := Nat.two_pow_pos us.length
  have e := least_some L (b := 2 ^ us.length - 1) (by omega) (z := z) (by rw [full_bit]; exact decide_eq_true hz) (fun w hw => h w (by rw [full_bit, decide_eq_true_eq] at hw; exact hw))
  have eb : bot us = z := by unfold bot; rw [e]; rfl
  rw [eb]
  exact ⟨e, hz, h⟩
theorem top_spec {us : List Nat} (L : Lat us) : topF us < us.length ∧ ∀ w, w < us.length → le us w (topF us) = true := by
  have hn := dual_len us
  obtain ⟨_, h1, h2⟩ := bot_spec (dual_lat L)
  have h1' : topF us < us.length := by rw [hn] at h1; exact h1
  refine ⟨h1', fun w hw => ?_⟩
  rw [← dual_le h1' hw]
  exact h2 w (by rw [hn]; exact hw)
theorem bottom_spec {us : List Nat} (L : Lat us) (hn8 : us.length ≤ 100) : f_bottom [.d (tn us)] = .ok (on (bot us)) [] := by
  have hp := Nat.two_pow_pos us.length
  have hs := least_spec us (2 ^ us.length - 1) (Nat.lt_of_lt_of_le (show 2 ^ us.length - 1 < 2 ^ us.length by omega) (Nat.pow_le_pow_right (by omega) (by omega))) (fun i hi => by
    have := mem_bl.mp hi
    rw [full_bit, decide_eq_true_eq] at this
    exact this)
  rw [(bot_spec L).1] at hs
  exact fn_rt (ret_ok (call2 (var_d rfl) (call1 (len_tn (var_d rfl)) (full_spec _ (by omega))) hs)) rfl
theorem topf_spec {us : List Nat} (L : Lat us) (hn8 : us.length ≤ 100) : f_top [.d (tn us)] = .ok (on (topF us)) [] := by
  have hn := dual_len us
  have hp := Nat.two_pow_pos us.length
  have hs := least_spec (dual us) (2 ^ us.length - 1) (Nat.lt_of_lt_of_le (show 2 ^ us.length - 1 < 2 ^ us.length by omega) (Nat.pow_le_pow_right (by omega) (by omega))) (fun i hi => by
    have := mem_bl.mp hi
    rw [full_bit, decide_eq_true_eq] at this
    rw [hn]
    exact this)
  have e := (bot_spec (dual_lat L)).1
  rw [hn] at e
  rw [e] at hs
  exact fn_rt (ret_ok (call2 (call1 (var_d rfl) (below_spec us (by omega))) (call1 (len_tn (var_d rfl)) (full_spec _ (by omega))) hs)) rfl
/-! ### maps -/
end K50
end
section
set_option Elab.async false
set_option linter.all false
set_option maxRecDepth 100000
set_option autoImplicit false
namespace FL
open PySem
/-- a walk that may end within; the state goes on by the turn -/
theorem forL_ret {j : Nat} {b : MS} (Q : Nat → FL.Env → Prop) (p : Nat → Bool) (o : Nat → O) : ∀ (l : List Nat) (k : Nat), (∀ i x ρ, l[i]? = some x → Q (k + i) ρ → (p x = true → ∃ ρ', b (ρ.set j (some (on x))) = .rt (o x) ρ') ∧ (p x = false → ∃ ρ', b (ρ.set j (some (on x))) = .nx ρ' ∧ Q (k + i + 1) ρ')) →
    ∀ ρ, Q k ρ → (∀ x, l.find? p = some x → ∃ ρ', forL (.n j) b (l.map dn) ρ = .rt (o x) ρ') ∧ (l.find? p = none → ∃ ρ', forL (.n j) b (l.map dn) ρ = .nx ρ' ∧ Q (k + l.length) ρ')
  | [], k, _, ρ, h0 => ⟨fun i e => (nomatch e), fun _ => ⟨ρ, rfl, h0⟩⟩
  | x :: l, k, h, ρ, h0 => by
    obtain ⟨hp, hn⟩ := h 0 x ρ rfl h0
    cases hb : p x with
    | true =>
      obtain ⟨ρ', e⟩ := hp hb
      refine ⟨fun i hi => ⟨ρ', ?_⟩, fun hi => ?_⟩
      · rw [List.find?_cons, hb] at hi
        cases hi
        show forL (.n j) b (dn x :: l.map dn) ρ = _
        unfold forL
        simp only [Tg.put, e]
      · rw [List.find?_cons, hb] at hi
        cases hi
    | false =>
      obtain ⟨ρ', e, q⟩ := hn hb
      have ih := forL_ret Q p o l (k + 1) (fun i y ρ hy hq => by
        have := h (i + 1) y ρ (by simpa using hy) (by rw [show k + (i + 1) = k + 1 + i by omega]; exact hq)
        rw [show k + (i + 1) + 1 = k + 1 + i + 1 by omega] at this
        exact this) ρ' q
      refine ⟨fun i hi => ?_, fun hi => ?_⟩
      · rw [List.find?_cons, hb] at hi
        obtain ⟨ρ2, e2⟩ := ih.1 i hi
        refine ⟨ρ2, ?_⟩
        show forL (.n j) b (dn x :: l.map dn) ρ = _
        unfold forL
        simp only [Tg.put, e]
        exact e2
      · rw [List.find?_cons, hb] at hi
        obtain ⟨ρ2, e2, q2⟩ := ih.2 hi
        refine ⟨ρ2, ?_, by rw [List.length_cons, show k + (l.length + 1) = k + 1 + l.length by omega]; exact q2⟩
        show forL (.n j) b (dn x :: l.map dn) ρ = _
        unfold forL
        simp only [Tg.put, e]
        exact e2
theorem oIsN_N : oIsN .none .none = some (.bool true) := rfl
end FL
end
section
set_option Elab.async false
set_option linter.all false
set_option maxRecDepth 100000
set_option autoImplicit false
set_option exponentiation.threshold 2000
namespace FL
open PySem L2
/-! ### comprehensions and loops over any targets -/
theorem lcL_gen {α : Type} {tg : Tg} {vs : List Nat} {c : Mb} {e : M} {ρ : Env} (I : α → PyData) (E : α → Env) (q : α → Bool) (F : α → O) : ∀ l : List α,
    (∀ a ∈ l, tg.put (I a) ρ = some (E a) ∧ c (E a) = .ok (q a) (E a) ∧ (q a = true → e (E a) = .ok (.o (F a)) (E a)) ∧ dataSlots (E a) vs = true ∧ wipeE (E a) vs = ρ) → lcL tg vs c e (l.map I) ρ = some ((l.filter q).map F, ρ)
  | [], _ => rfl
  | a :: l, h => by
    have ih := lcL_gen I E q F l fun x m => h x (List.mem_cons_of_mem _ m)
    obtain ⟨e1, e2, e3, e4, e5⟩ := h a List.mem_cons_self
    rw [List.map_cons]
    unfold lcL
    rw [e1]
    simp only [e2]
    cases hq : q a with
    | true =>
      simp only [if_true, e3 hq, Rv.own, e4, e5, ih]
      rw [List.filter_cons_of_pos hq, List.map_cons]
    | false =>
      simp only [Bool.false_eq_true, if_false, e4, e5, ih, if_true]
      rw [List.filter_cons_of_neg (by rw [hq]; exact Bool.false_ne_true)]
theorem lcG {α : Type} {mi : Mi} {tg : Tg} {vs : List Nat} {c : Mb} {e : M} {ρ0 ρ : Env} {l : List α} (I : α → PyData) (E : α → Env) (q : α → Bool) (F : α → O) (hm : mi ρ0 = .ok (l.map I) ρ) (h0 : dataSlots ρ vs = true) (hw : wipeE ρ vs = ρ)
    (h : ∀ a ∈ l, tg.put (I a) ρ = some (E a) ∧ c (E a) = .ok (q a) (E a) ∧ (q a = true → e (E a) = .ok (.o (F a)) (E a)) ∧ dataSlots (E a) vs = true ∧ wipeE (E a) vs = ρ) (hl : l.length ≤ 16777216) :
    mLc mi tg vs c e ρ0 = .ok (.o (.lst ((l.filter q).map F))) ρ := by
  have hk : okLen ((l.filter q).map F) = true := okLen_n _ (by rw [List.length_map]; exact Nat.le_trans (List.length_filter_le _ _) hl)
  simp only [mLc, hm, R.bind, h0, if_true, hw, lcL_gen I E q F l h, hk]
/-- without a test -/
theorem lcG1 {α : Type} {mi : Mi} {tg : Tg} {vs : List Nat} {e : M} {ρ0 ρ : Env} {l : List α} (I : α → PyData) (E : α → Env) (F : α → O) (hm : mi ρ0 = .ok (l.map I) ρ) (h0 : dataSlots ρ vs = true) (hw : wipeE ρ vs = ρ)
    (h : ∀ a ∈ l, tg.put (I a) ρ = some (E a) ∧ e (E a) = .ok (.o (F a)) (E a) ∧ dataSlots (E a) vs = true ∧ wipeE (E a) vs = ρ) (hl : l.length ≤ 16777216) :
    mLc mi tg vs mYes e ρ0 = .ok (.o (.lst (l.map F))) ρ := by
  have := lcG (c := mYes) I E (fun _ => true) F hm h0 hw (fun a ha => ⟨(h a ha).1, rfl, fun _ => (h a ha).2.1, (h a ha).2.2⟩) hl
  rwa [List.filter_eq_self.mpr fun _ _ => rfl] at this
theorem forG_go {α : Type} {tg : Tg} {b : MS} (I : α → PyData) (P : List α → Env → Prop) (full : List α) (h : ∀ done a rest ρ, full = done ++ a :: rest → P done ρ → ∃ ρ1 ρ2, tg.put (I a) ρ = some ρ1 ∧ (b ρ1 = .nx ρ2 ∨ b ρ1 = .ct ρ2) ∧ P (done ++ [a]) ρ2) : ∀ (l done : List α) (ρ : Env), full = done ++ l → P done ρ → ∃ ρ', forL tg b (l.map I) ρ = .nx ρ' ∧ P full ρ'
  | [], done, ρ, e, p => ⟨ρ, rfl, by rw [e, List.append_nil]; exact p⟩
  | a :: l, done, ρ, e, p => by
    obtain ⟨ρ1, ρ2, e1, e2, p2⟩ := h done a l ρ e p
    obtain ⟨ρ', e3, p3⟩ := forG_go I P full h l (done ++ [a]) ρ2 (by rw [e, List.append_assoc]; rfl) p2
    refine ⟨ρ', ?_, p3⟩
    rw [List.map_cons]
    unfold forL
    rw [e1]
    rcases e2 with e2 | e2 <;> (simp only [e2]; exact e3)
theorem forG {α : Type} {tg : Tg} {b : MS} {full : List α} {ρ : Env} (I : α → PyData) (P : List α → Env → Prop) (h : ∀ done a rest ρ, full = done ++ a :: rest → P done ρ → ∃ ρ1 ρ2, tg.put (I a) ρ = some ρ1 ∧ (b ρ1 = .nx ρ2 ∨ b ρ1 = .ct ρ2) ∧ P (done ++ [a]) ρ2) (h0 : P [] ρ) :
    ∃ ρ', forL tg b (full.map I) ρ = .nx ρ' ∧ P full ρ' := forG_go I P full h full [] ρ rfl h0
/-- a loop that may return: from each turn on, either it returns what R says, or it goes on -/
theorem forR_go {α : Type} {tg : Tg} {b : MS} (I : α → PyData) (P : List α → Env → Prop) (R : O → Prop) (full : List α) (h : ∀ done a rest ρ, full = done ++ a :: rest → P done ρ → ∃ ρ1, tg.put (I a) ρ = some ρ1 ∧ ((∃ o ρ2, b ρ1 = .rt o ρ2 ∧ R o) ∨ ∃ ρ2, (b ρ1 = .nx ρ2 ∨ b ρ1 = .ct ρ2) ∧ P (done ++ [a]) ρ2)) : ∀ (l done : List α) (ρ : Env), full = done ++ l → P done ρ → (∃ o ρ', forL tg b (l.map I) ρ = .rt o ρ' ∧ R o) ∨ ∃ ρ', forL tg b (l.map I) ρ = .nx ρ' ∧ P full ρ'
  | [], done, ρ, e, p => .inr ⟨ρ, rfl, by rw [e, List.append_nil]; exact p⟩
  | a :: l, done, ρ, e, p => by
    obtain ⟨ρ1, e1, e2⟩ := h done a l ρ e p
    rw [List.map_cons]
    unfold forL
    rw [e1]
    rcases e2 with ⟨o, ρ2, e2, r⟩ | ⟨ρ2, e2, p2⟩
    · refine .inl ⟨o, ρ2, ?_, r⟩
      simp only [e2]
    · have := forR_go I P R full h l (done ++ [a]) ρ2 (by rw [e, List.append_assoc]; rfl) p2
      rcases e2 with e2 | e2 <;> (simp only [e2]; exact this)
/-! ### numbers that may be less than 0 -/
abbrev oz (z : Int) : O := .d (.int z)
theorem oEq_z (a b : Int) : oEq (.int a) (.int b) = some (.bool (decide (a = b))) := by
  unfold oEq
  rw [if_pos (by rfl), eqv_int]
theorem oNe_z (a b : Int) : oNe (.int a) (.int b) = some (.bool (!decide (a = b))) := by
  unfold oNe
  rw [if_pos (by rfl), eqv_int]
theorem oAdd_z (a b : Int) : oAdd (.int a) (.int b) = some (.int (a + b)) := rfl
theorem fAdd_z (a b : Int) : fAdd (.int a) (.int b) = some (.int (a + b)) := rfl
theorem oSub_z (a b : Int) : oSub (.int a) (.int b) = some (.int (a - b)) := rfl
theorem un_ok {f : PyData → Option PyData} {m : M} {ρ ρ' : Env} {x z : PyData} (e : m ρ = .ok (.o (.d x)) ρ') (h : f x = some z) : mUn f m ρ = .ok (.o (.d z)) ρ' := by
  unfold mUn
  rw [e]
  show optR (view1 f (.o (.d x)) ρ') ρ' = _
  unfold view1
  show optR (f x) ρ' = _
  rw [h]; rfl
theorem neg_z {m : M} {ρ ρ' : Env} {z : Int} (e : m ρ = .ok (.o (oz z)) ρ') : mUn oNeg m ρ = .ok (.o (oz (-z))) ρ' := un_ok e rfl
theorem intsOf_z : ∀ zs : List Int, intsOf (zs.map .int) = some zs
  | [] => rfl
  | z :: zs => by rw [List.map_cons, intsOf, intsOf_z zs]
theorem sum_z {m : M} {ρ ρ' : Env} {α : Type} {l : List α} {f : α → Int} (e : m ρ = .ok (.o (.lst (l.map fun a => oz (f a)))) ρ') : mCallB fSum (mCons m mNil) ρ = .ok (.o (oz (l.map f).sum)) ρ' := by
  have e2 : (l.map fun a => oz (f a)) = ((l.map f).map PyData.int).map O.d := by rw [List.map_map, List.map_map]; rfl
  rw [e2] at e
  unfold mCallB mCons mNil
  simp only [R.bind, e, viewRs, Rv.view, O.view, allD_map, fSum, intsOf_z, optR]
/-! ### pairs -/
theorem enumL_n : ∀ (l : List Nat) (k : Nat), enumL k (l.map dn) = (List.range l.length).map fun i => prD (k + i, l.getD i 0)
  | [], _ => rfl
  | x :: l, k => by
    rw [List.map_cons, enumL, enumL_n l (k + 1), List.length_cons, List.range_succ_eq_map, List.map_cons, List.map_map]
    congr 1
    refine List.map_congr_left fun i _ => ?_
    show prD (k + 1 + i, l.getD i 0) = prD (k + (i + 1), (x :: l).getD (i + 1) 0)
    rw [show k + 1 + i = k + (i + 1) by omega]
    rfl
end FL
namespace FL
open PySem
theorem flat_one {α : Type} (x : α) : ∀ k : Nat, (List.replicate k [x]).flatten = (List.range k).map fun _ => x
  | 0 => rfl
  | k + 1 => by
    rw [List.replicate_succ, List.flatten_cons, flat_one x k, List.range_succ_eq_map, List.map_cons, List.map_map]; rfl
theorem rep_one {ma mb : M} {ρ ρ1 ρ2 : FL.Env} (x : PyData) {k : Nat} (e : ma ρ = .ok (.o (.lst [.d x])) ρ1) (e2 : mb ρ1 = .ok (.o (on k)) ρ2) (hk : k < 1000000) : mRep ma mb ρ = .ok (.o (.lst (((List.range k).map fun _ => x).map .d))) ρ2 := by
  unfold mRep
  simp only [R.bind, e, allD, e2, intR, Rv.view, O.view]
  rw [if_pos (by simp; omega), Int.toNat_natCast, flat_one]
end FL
end
section
set_option Elab.async false
set_option linter.all false
set_option maxRecDepth 100000
set_option autoImplicit false
set_option exponentiation.threshold 2000
namespace K50
open PySem FL
theorem pos_len_succ (b k : Nat) : (pos b (k + 1)).length = (pos b k).length + b >>> k % 2 := by
  rw [pos_succ]
  have h := shr_mod b k
  cases q : b.testBit k with
  | true =>
    rw [q] at h
    have := of_decide_eq_true h
    rw [if_pos rfl, List.length_append, this]; rfl
  | false =>
    rw [q] at h
    have := of_decide_eq_false h
    rw [if_neg Bool.false_ne_true, List.append_nil]
    omega
theorem count_spec (b : Nat) (hb : b < 2 ^ 1000) : f_count [on b] = .ok (on (bl b).length) [] := by
  have loop := whileL_rel (t := mTst asB (mOp oGt (mVar 0) (mC (.int 0)))) (b := mSeq (mAug fAdd 1 (mOp oAnd (mVar 0) (mC (.int 1)))) (mSet 0 (mOp oShr (mVar 0) (mC (.int 1)))))
    (fun m ρ => ∃ k, m = b >>> k ∧ k ≤ 1000 ∧ ρ = [some (on (b >>> k)), some (on (pos b k).length)]) b (b + 1) [some (on b), some (on 0)] (by omega) ?_ ?_ ⟨0, rfl, by omega, rfl⟩
  · obtain ⟨ρ', e, k, h0, hk, rfl⟩ := loop
    have e2 : (pos b k) = bl b := (bl_eq (shr_zero h0.symm)).symm
    rw [e2] at e
    exact fn_rt (seq_nx (set_ok rfl) (seq_nx e (ret_ok (var_d rfl)))) rfl
  · rintro m ρ ⟨k, hm, hk, rfl⟩
    have hne : b >>> k ≠ 0 := by omega
    have hk2 := shr_ne hb hne
    have h1 := oGt_n (b >>> k) 0
    rw [show decide (0 < b >>> k) = true from decide_eq_true (by omega)] at h1
    have h4 := oShr_n (b >>> k) 1
    rw [shr_one] at h4
    have h2 := oAnd_n (b >>> k) 1
    rw [Nat.and_one_is_mod] at h2
    have h5 := fAdd_n (pos b k).length (b >>> k % 2)
    rw [← pos_len_succ] at h5
    refine ⟨_, [some (on (b >>> (k + 1))), some (on (pos b (k + 1)).length)], tst (op2 (var_d rfl) rfl h1), .inl ?_, b >>> (k + 1), ?_, k + 1, rfl, by omega, rfl⟩
    · exact seq_nx (set_ok (op2 (var_d rfl) (op2 (var_d rfl) rfl h2) h5)) (set_ok (op2 (var_d rfl) rfl h4))
    · rw [← shr_one, ← hm, Nat.shiftRight_eq_div_pow]
      omega
  · rintro ρ ⟨k, hm, hk, rfl⟩
    have h1 := oGt_n (b >>> k) 0
    rw [show decide (0 < b >>> k) = false from decide_eq_false (by omega)] at h1
    exact ⟨_, tst (op2 (var_d rfl) rfl h1), k, hm, hk, rfl⟩
theorem law_count_spec (b : Nat) (hb : b < 2 ^ 1000) : f_law_count [on b] = .ok (on (bl b).length) [] := fn_rt (ret_ok (len_tn (call1 (var_d rfl) (law_members_spec b hb)))) rfl
theorem between_spec {us : List Nat} (hn : us.length ≤ 100) {x y : Nat} (hx : x < us.length) (hy : y < us.length) (hu : us.getD x 0 < 2 ^ us.length) : f_between [.d (tn us), on x, on y] = .ok (.d (tn (bl (us.getD x 0 &&& (dual us).getD y 0)))) [] := by
  have hd := dual_len us
  have hlt : us.getD x 0 &&& (dual us).getD y 0 < 2 ^ 1000 := Nat.lt_of_le_of_lt Nat.and_le_left (Nat.lt_of_lt_of_le hu (Nat.pow_le_pow_right (by omega) (by omega)))
  exact fn_rt (seq_nx (set_ok (call1 (var_d rfl) (below_spec us (by omega)))) (ret_ok (call1 (op2 (op2 (var_d rfl) (var_d rfl) (ix_t hx)) (op2 (var_d rfl) (var_d rfl) (ix_t (by omega))) (oAnd_n _ _)) (members_spec _ hlt)))) rfl
/-! ### neighbours -/
def cov (us : List Nat) (x y : Nat) : Bool := !decide (x = y) && decide (us.getD x 0 &&& (dual us).getD y 0 = 1 <<< x ||| 1 <<< y)
def covRow (us : List Nat) (x : Nat) : List (Nat × Nat) := ((bl (us.getD x 0)).filter (cov us x)).map fun y => (x, y)
def covL (us : List Nat) : List (Nat × Nat) := (List.range us.length).flatMap (covRow us)
theorem bl_len {b n : Nat} (h : b < 2 ^ n) : (bl b).length ≤ n := by
  rw [bl_eq h]
  exact pos_length b n
theorem covers_spec {us : List Nat} (hn : us.length ≤ 100) (hu : ∀ x, x < us.length → us.getD x 0 < 2 ^ us.length) : f_covers [.d (tn us)] = .ok (.d (.tuple ((covL us).map prD))) [] := by
  have hd := dual_len us
  obtain ⟨ρ', e, y3, y4, hl, rfl⟩ := forG (tg := .n 3) (b := mFor (mItems (mCall [] 1 f_members (mCons (mOp oIx (mVar 0) (mVar 3)) mNil))) (.n 4)
    (mIfS (mAndT (mTst asB (mOp oNe (mVar 3) (mVar 4))) (mTst asB (mOp oEq (mOp oAnd (mOp oIx (mVar 0) (mVar 3)) (mOp oIx (mVar 2) (mVar 4))) (mOp oOr (mOp oShl (mC (.int 1)) (mVar 3)) (mOp oShl (mC (.int 1)) (mVar 4))))))
    (mExpr (mAppend 1 (mTup (mCons (mVar 3) (mCons (mVar 4) mNil))))) mSkip)) (full := List.range us.length) (ρ := [some (.d (tn us)), some (ol []), some (.d (tn (dual us))), none, none]) dn
    (fun done ρ => ∃ y3 y4, (done.flatMap (covRow us)).length ≤ 100 * done.length ∧ ρ = [some (.d (tn us)), some (ol ((done.flatMap (covRow us)).map prD)), some (.d (tn (dual us))), y3, y4]) (by
    rintro done x rest ρ hf ⟨y3, y4, hl, rfl⟩
    have hx : x < us.length := List.mem_range.mp (by rw [hf]; simp)
    have hdone : done.length ≤ 100 := by
      have := congrArg List.length hf
      simp at this
      omega
    have hbl := bl_len (hu x hx)
    obtain ⟨ρ', e, y4, hl2, rfl⟩ := forG (tg := .n 4) (b := mIfS (mAndT (mTst asB (mOp oNe (mVar 3) (mVar 4))) (mTst asB (mOp oEq (mOp oAnd (mOp oIx (mVar 0) (mVar 3)) (mOp oIx (mVar 2) (mVar 4))) (mOp oOr (mOp oShl (mC (.int 1)) (mVar 3)) (mOp oShl (mC (.int 1)) (mVar 4))))))
      (mExpr (mAppend 1 (mTup (mCons (mVar 3) (mCons (mVar 4) mNil))))) mSkip) (full := bl (us.getD x 0)) (ρ := [some (.d (tn us)), some (ol ((done.flatMap (covRow us)).map prD)), some (.d (tn (dual us))), some (on x), y4]) dn
      (fun d2 ρ => ∃ y4, ((d2.filter (cov us x)).map fun y => (x, y)).length ≤ d2.length ∧ ρ = [some (.d (tn us)), some (ol ((done.flatMap (covRow us) ++ (d2.filter (cov us x)).map fun y => (x, y)).map prD)), some (.d (tn (dual us))), some (on x), y4]) (by
      rintro d2 y rest2 ρ hf2 ⟨y4, hl2, rfl⟩
      have hy : y < us.length := by
        have : y ∈ bl (us.getD x 0) := by rw [hf2]; simp
        rw [bl_eq (hu x hx)] at this
        exact (mem_pos.mp this).1
      have hd2 : d2.length ≤ 100 := by
        have := congrArg List.length hf2
        rw [List.length_append, List.length_cons] at this
        omega
      let E : FL.Env := [some (.d (tn us)), some (ol ((done.flatMap (covRow us) ++ (d2.filter (cov us x)).map fun y => (x, y)).map prD)), some (.d (tn (dual us))), some (on x), some (on y)]
      have t : mAndT (mTst asB (mOp oNe (mVar 3) (mVar 4))) (mTst asB (mOp oEq (mOp oAnd (mOp oIx (mVar 0) (mVar 3)) (mOp oIx (mVar 2) (mVar 4))) (mOp oOr (mOp oShl (mC (.int 1)) (mVar 3)) (mOp oShl (mC (.int 1)) (mVar 4))))) E = .ok (cov us x y) E := by
        have t1 : mTst asB (mOp oNe (mVar 3) (mVar 4)) E = .ok (!decide (x = y)) E := tst (op2 (var_d rfl) (var_d rfl) (oNe_n x y))
        unfold cov
        by_cases q : x = y
        · rw [decide_eq_true q] at t1 ⊢
          exact and_ff t1
        · rw [decide_eq_false q] at t1 ⊢
          exact and_tt t1 (tst (op2 (op2 (op2 (var_d rfl) (var_d rfl) (ix_t hx)) (op2 (var_d rfl) (var_d rfl) (ix_t (by omega))) (oAnd_n _ _)) (op2 (op2 rfl (var_d rfl) (oShl_n 1 x (by omega) (by omega))) (op2 rfl (var_d rfl) (oShl_n 1 y (by omega) (by omega))) (oOr_n _ _)) (oEq_n _ _)))
      refine ⟨E, [some (.d (tn us)), some (ol ((done.flatMap (covRow us) ++ ((d2 ++ [y]).filter (cov us x)).map fun y => (x, y)).map prD)), some (.d (tn (dual us))), some (on x), some (on y)], rfl, .inl ?_, some (on y), ?_, rfl⟩
      · cases q : cov us x y with
        | true =>
          rw [q] at t
          have := append_ok (j := 1) (m := mTup (mCons (mVar 3) (mCons (mVar 4) mNil))) (ρ := E) (ρ1 := E) (os := ((done.flatMap (covRow us) ++ (d2.filter (cov us x)).map fun y => (x, y)).map prD).map O.d) (o := .d (prD (x, y))) rfl rfl (tup_ok (ms_cons (var_d rfl) (ms_cons (var_d rfl) ms_nil)) rfl rfl) (by rw [List.length_map, List.length_map, List.length_append]; omega)
          refine if_t t ((expr_ok this).trans ?_)
          rw [List.filter_append, List.filter_cons_of_pos q]
          simp [E]
        | false =>
          rw [q] at t
          refine if_f t ?_
          rw [List.filter_append, List.filter_cons_of_neg (by rw [q]; exact Bool.false_ne_true)]
          simp [E, mSkip]
      · rw [List.length_map]
        exact List.length_filter_le _ _) ⟨y4, by simp, by simp⟩
    refine ⟨_, _, rfl, .inl (for_ok (items_t (call1 (op2 (var_d rfl) (var_d rfl) (ix_t hx)) (members_spec _ (Nat.lt_of_lt_of_le (hu x hx) (Nat.pow_le_pow_right (by omega) (by omega)))))) e), some (on x), y4, ?_, ?_⟩
    · rw [List.flatMap_append, List.length_append, List.length_append, List.flatMap_cons, List.flatMap_nil, List.append_nil]
      have h1 := List.length_filter_le (cov us x) (bl (us.getD x 0))
      have h2 : (covRow us x).length ≤ 100 := by
        unfold covRow
        rw [List.length_map]
        omega
      have h3 : [x].length = 1 := rfl
      omega
    · rw [List.flatMap_append, List.flatMap_cons, List.flatMap_nil, List.append_nil]
      rfl) ⟨none, none, by simp, rfl⟩
  have e5 : mCallB fTuple (mCons (mVar 1) mNil) [some (.d (tn us)), some (ol ((covL us).map prD)), some (.d (tn (dual us))), y3, y4] = .ok (.o (.d (.tuple ((covL us).map prD)))) [some (.d (tn us)), some (ol ((covL us).map prD)), some (.d (tn (dual us))), y3, y4] := tuple_own rfl
  exact fn_rt (seq_nx (set_ok rfl) (seq_nx (set_ok (call1 (var_d rfl) (below_spec us (by omega)))) (seq_nx (for_ok (walk1 (len_tn (var_d rfl)) (by omega)) e) (ret_ok e5)))) rfl
end K50
end
section
/-! sums over lists of numbers; the function of Moebius of a finite order; plain Lean -/
set_option linter.all false
set_option autoImplicit false
namespace MS
/-- the sum of f over l -/
def sm (l : List Nat) (f : Nat → Int) : Int := (l.map f).sum
theorem sm_nil (f : Nat → Int) : sm [] f = 0 := rfl
theorem sm_cons (x : Nat) (l : List Nat) (f : Nat → Int) : sm (x :: l) f = f x + sm l f := by simp [sm]
theorem sm_append (l m : List Nat) (f : Nat → Int) : sm (l ++ m) f = sm l f + sm m f := by
  induction l with
  | nil => rw [List.nil_append, sm_nil, Int.zero_add]
  | cons x l ih => rw [List.cons_append, sm_cons, sm_cons, ih, Int.add_assoc]
theorem sm_congr {l : List Nat} {f g : Nat → Int} (h : ∀ x ∈ l, f x = g x) : sm l f = sm l g := by
  unfold sm
  rw [List.map_congr_left h]
theorem sm_zero {l : List Nat} {f : Nat → Int} (h : ∀ x ∈ l, f x = 0) : sm l f = 0 := by
  induction l with
  | nil => rfl
  | cons x l ih => rw [sm_cons, h x List.mem_cons_self, ih fun y hy => h y (List.mem_cons_of_mem _ hy), Int.add_zero]
theorem sm_add (l : List Nat) (f g : Nat → Int) : sm l (fun x => f x + g x) = sm l f + sm l g := by
  induction l with
  | nil => rfl
  | cons x l ih => rw [sm_cons, sm_cons, sm_cons, ih]; omega
theorem sm_sub (l : List Nat) (f g : Nat → Int) : sm l (fun x => f x - g x) = sm l f - sm l g := by
  induction l with
  | nil => rfl
  | cons x l ih => rw [sm_cons, sm_cons, sm_cons, ih]; omega
theorem sm_neg (l : List Nat) (f : Nat → Int) : sm l (fun x => -f x) = -sm l f := by
  induction l with
  | nil => rfl
  | cons x l ih => rw [sm_cons, sm_cons, ih]; omega
theorem sm_mul (l : List Nat) (c : Int) (f : Nat → Int) : sm l (fun x => c * f x) = c * sm l f := by
  induction l with
  | nil => rw [sm_nil, sm_nil, Int.mul_zero]
  | cons x l ih => rw [sm_cons, sm_cons, ih, Int.mul_add]
theorem sm_mulr (l : List Nat) (c : Int) (f : Nat → Int) : sm l (fun x => f x * c) = sm l f * c := by
  induction l with
  | nil => rw [sm_nil, sm_nil, Int.zero_mul]
  | cons x l ih => rw [sm_cons, sm_cons, ih, Int.add_mul]
theorem sm_swap (l m : List Nat) (f : Nat → Nat → Int) : sm l (fun x => sm m fun y => f x y) = sm m fun y => sm l fun x => f x y := by
  induction l with
  | nil => exact (sm_zero fun y _ => rfl).symm
  | cons x l ih =>
    rw [sm_cons, ih, ← sm_add]
    exact sm_congr fun y _ => (sm_cons x l (fun x => f x y)).symm
theorem sm_filter (l : List Nat) (p : Nat → Bool) (f : Nat → Int) : sm (l.filter p) f = sm l fun x => if p x = true then f x else 0 := by
  induction l with
  | nil => rfl
  | cons x l ih =>
    rw [sm_cons]
    cases h : p x with
    | true => rw [List.filter_cons_of_pos h, sm_cons, ih]; rfl
    | false =>
      rw [List.filter_cons_of_neg (by rw [h]; exact Bool.false_ne_true), ih]
      show _ = (0 : Int) + _
      rw [Int.zero_add]
theorem sm_perm {l m : List Nat} (h : l.Perm m) (f : Nat → Int) : sm l f = sm m f := by
  induction h with
  | nil => rfl
  | cons x _ ih => rw [sm_cons, sm_cons, ih]
  | swap x y l => rw [sm_cons, sm_cons, sm_cons, sm_cons]; omega
  | trans _ _ ih1 ih2 => exact ih1.trans ih2
/-- just one is met -/
theorem sm_one {l : List Nat} (nd : l.Nodup) {a : Nat} (ha : a ∈ l) {f : Nat → Int} (h : ∀ x ∈ l, x ≠ a → f x = 0) : sm l f = f a := by
  induction l with
  | nil => cases ha
  | cons x l ih =>
    rw [sm_cons]
    have nd := List.nodup_cons.mp nd
    rcases List.mem_cons.mp ha with e | hm
    · rw [e, sm_zero fun y hy => h y (List.mem_cons_of_mem _ hy) fun z => nd.1 (by rw [← e, ← z]; exact hy), Int.add_zero]
    · rw [ih nd.2 hm fun y hy => h y (List.mem_cons_of_mem _ hy), h x List.mem_cons_self fun z => nd.1 (by rw [z]; exact hm), Int.zero_add]
theorem sm_map (l : List Nat) (g : Nat → Nat) (f : Nat → Int) : sm (l.map g) f = sm l fun x => f (g x) := by
  unfold sm
  rw [List.map_map]
  rfl
/-- over the places -/
theorem sm_places (l : List Nat) (f : Nat → Int) : sm (List.range l.length) (fun i => f (l.getD i 0)) = sm l f := by
  rw [← sm_map (List.range l.length) (fun i => l.getD i 0) f]
  congr 1
  apply List.ext_getElem
  · simp
  · intro i h1 h2
    simp [List.getD_eq_getElem?_getD, h2]

/-! ### a finite order, its function of Moebius from one point on -/
structure Ord (n : Nat) (r : Nat → Nat → Bool) : Prop where
  refl : ∀ x, x < n → r x x = true
  trans : ∀ x y z, x < n → y < n → z < n → r x y = true → r y z = true → r x z = true
  anti : ∀ x y, x < n → y < n → r x y = true → r y x = true → x = y
/-- how many are below -/
def dn (n : Nat) (r : Nat → Nat → Bool) (w : Nat) : Nat := ((List.range n).filter fun z => r z w).length
theorem filter_le {α : Type} {p q : α → Bool} : ∀ {l : List α}, (∀ x ∈ l, p x = true → q x = true) → (l.filter p).length ≤ (l.filter q).length
  | [], _ => Nat.le_refl _
  | x :: l, h => by
    have ih := filter_le (l := l) fun y hy => h y (List.mem_cons_of_mem _ hy)
    cases hp : p x with
    | true =>
      rw [List.filter_cons_of_pos hp, List.filter_cons_of_pos (h x List.mem_cons_self hp), List.length_cons, List.length_cons]
      omega
    | false =>
      rw [List.filter_cons_of_neg (by rw [hp]; exact Bool.false_ne_true)]
      cases hq : q x with
      | true => rw [List.filter_cons_of_pos hq, List.length_cons]; omega
      | false => rw [List.filter_cons_of_neg (by rw [hq]; exact Bool.false_ne_true)]; exact ih
theorem filter_lt {α : Type} {p q : α → Bool} {a : α} : ∀ {l : List α}, (∀ x ∈ l, p x = true → q x = true) → a ∈ l → p a = false → q a = true → (l.filter p).length < (l.filter q).length
  | [], _, ha, _, _ => nomatch ha
  | x :: l, h, ha, h1, h2 => by
    have hl := fun y hy => h y (List.mem_cons_of_mem x hy)
    rcases List.mem_cons.mp ha with e | hm
    · subst e
      have := filter_le hl
      rw [List.filter_cons_of_neg (by rw [h1]; exact Bool.false_ne_true), List.filter_cons_of_pos h2, List.length_cons]
      omega
    · have ih := filter_lt hl hm h1 h2
      cases hp : p x with
      | true =>
        rw [List.filter_cons_of_pos hp, List.filter_cons_of_pos (h x List.mem_cons_self hp), List.length_cons, List.length_cons]
        omega
      | false =>
        rw [List.filter_cons_of_neg (by rw [hp]; exact Bool.false_ne_true)]
        cases hq : q x with
        | true => rw [List.filter_cons_of_pos hq, List.length_cons]; omega
        | false => rw [List.filter_cons_of_neg (by rw [hq]; exact Bool.false_ne_true)]; exact ih
theorem dn_lt {n : Nat} {r : Nat → Nat → Bool} (O : Ord n r) {x y : Nat} (hx : x < n) (hy : y < n) (h : r x y = true) (hne : x ≠ y) : dn n r x < dn n r y := by
  refine filter_lt (a := y) (fun z hz hzx => O.trans z x y (List.mem_range.mp hz) hx hy hzx h) (List.mem_range.mpr hy) ?_ (O.refl y hy)
  cases q : r y x with
  | false => rfl
  | true => exact absurd (O.anti x y hx hy h q) hne
/-- functions with the same sums from below are the same -/
theorem sums_inj {n : Nat} {r : Nat → Nat → Bool} (O : Ord n r) {f g : Nat → Int} (h : ∀ w, w < n → (sm (List.range n) fun z => if r z w = true then f z else 0) = sm (List.range n) fun z => if r z w = true then g z else 0) : ∀ w, w < n → f w = g w := by
  have go : ∀ k w, w < n → dn n r w ≤ k → f w = g w := by
    intro k
    induction k with
    | zero =>
      intro w hw hk
      have : w ∈ (List.range n).filter fun z => r z w := List.mem_filter.mpr ⟨List.mem_range.mpr hw, O.refl w hw⟩
      have := List.length_pos_of_mem this
      unfold dn at hk
      omega
    | succ k ih =>
      intro w hw hk
      have e := h w hw
      have e2 : (sm (List.range n) fun z => (if r z w = true then f z else 0) - (if r z w = true then g z else 0)) = f w - g w := by
        have := sm_one (l := List.range n) List.nodup_range (a := w) (List.mem_range.mpr hw) (f := fun z => (if r z w = true then f z else 0) - (if r z w = true then g z else 0)) (fun z hz hne => by
          have hz := List.mem_range.mp hz
          cases q : r z w with
          | false => simp
          | true =>
            have := dn_lt O hz hw q hne
            simp [ih z hz (by omega)])
        rw [this, O.refl w hw, if_pos rfl, if_pos rfl]
      rw [sm_sub, e] at e2
      omega
  exact fun w hw => go (dn n r w) w hw (Nat.le_refl _)
/-- m is the function of Moebius from a on -/
structure Mu (n : Nat) (r : Nat → Nat → Bool) (a : Nat) (m : Nat → Int) : Prop where
  out : ∀ y, y < n → r a y = false → m y = 0
  sum : ∀ w, w < n → (sm (List.range n) fun z => if r z w = true then m z else 0) = if w = a then 1 else 0
/-- from the recursion -/
theorem mu_of {n : Nat} {r : Nat → Nat → Bool} (O : Ord n r) {a : Nat} (ha : a < n) {m : Nat → Int} (h0 : ∀ y, y < n → r a y = false → m y = 0) (h1 : m a = 1)
    (h2 : ∀ y, y < n → r a y = true → y ≠ a → m y = -(sm ((List.range n).filter fun z => r a z && r z y && decide (z ≠ y)) m)) : Mu n r a m := by
  refine ⟨h0, fun w hw => ?_⟩
  cases q : r a w with
  | false =>
    have hne : w ≠ a := fun e => by rw [e, O.refl a ha] at q; cases q
    rw [if_neg hne]
    refine sm_zero fun z hz => ?_
    have hz := List.mem_range.mp hz
    split
    · rename_i hzw
      refine h0 z hz ?_
      cases q2 : r a z with
      | false => rfl
      | true => rw [O.trans a z w ha hz hw q2 hzw] at q; cases q
    · rfl
  | true =>
    by_cases e : w = a
    · rw [if_pos e]
      subst e
      rw [sm_one (a := w) List.nodup_range (List.mem_range.mpr hw) (fun z hz hne => by
        have hz := List.mem_range.mp hz
        split
        · rename_i hzw
          refine h0 z hz ?_
          cases q2 : r w z with
          | false => rfl
          | true => exact absurd (O.anti z w hz hw hzw q2) hne
        · rfl), if_pos q, h1]
    · rw [if_neg e]
      have e2 := h2 w hw q e
      rw [sm_filter] at e2
      have e3 : (sm (List.range n) fun z => (if r z w = true then m z else 0) - (if (r a z && r z w && decide (z ≠ w)) = true then m z else 0)) = m w := by
        rw [sm_one (a := w) List.nodup_range (List.mem_range.mpr hw) (fun z hz hne => by
          have hz := List.mem_range.mp hz
          cases q1 : r a z with
          | false => simp [h0 z hz q1]
          | true => simp [hne])]
        simp [O.refl w hw]
      rw [sm_sub] at e3
      omega
end MS
end
section
/-! chains, sets of atoms, Weisner's sum; plain Lean -/
set_option linter.all false
set_option autoImplicit false
namespace MS
/-! ### the number of Euler -/
/-- the next row of ways -/
def nextW (l : List Nat) (r : Nat → Nat → Bool) (w : Nat → Int) : Nat → Int := fun p => sm (l.filter fun q => r p q && decide (q ≠ p)) w
/-- what the loop keeps: E(q) + the sum of E below q is 1 -/
theorem euler_keep {l : List Nat} {r : Nat → Nat → Bool} {E : Nat → Int} (hE : ∀ q ∈ l, E q + sm (l.filter fun p => r p q && decide (q ≠ p)) E = 1) (w : Nat → Int) :
    sm l (fun p => nextW l r w p * E p) = sm l w - sm l (fun p => w p * E p) := by
  have e1 : sm l (fun p => nextW l r w p * E p) = sm l fun p => sm l fun q => if (r p q && decide (q ≠ p)) = true then w q * E p else 0 := sm_congr fun p _ => by
    unfold nextW
    rw [sm_filter, ← sm_mulr]
    refine sm_congr fun q _ => ?_
    split
    · rfl
    · rw [Int.zero_mul]
  rw [e1, sm_swap, ← sm_sub]
  refine sm_congr fun q hq => ?_
  have h := hE q hq
  have e2 : (sm l fun p => if (r p q && decide (q ≠ p)) = true then w q * E p else 0) = w q * sm (l.filter fun p => r p q && decide (q ≠ p)) E := by
    rw [sm_filter, ← sm_mul]
    refine sm_congr fun p _ => ?_
    split
    · rfl
    · rw [Int.mul_zero]
  rw [e2, show sm (l.filter fun p => r p q && decide (q ≠ p)) E = 1 - E q by omega, Int.mul_sub, Int.mul_one]
/-- the ways after k turns, from a point: none where fewer than k are above it -/
def up (n : Nat) (r : Nat → Nat → Bool) (w : Nat) : Nat := ((List.range n).filter fun z => r w z).length
theorem up_lt {n : Nat} {r : Nat → Nat → Bool} (O : Ord n r) {x y : Nat} (hx : x < n) (hy : y < n) (h : r x y = true) (hne : x ≠ y) : up n r y < up n r x := by
  refine filter_lt (a := x) (fun z hz hzx => O.trans x y z hx hy (List.mem_range.mp hz) h hzx) (List.mem_range.mpr hx) ?_ (O.refl x hx)
  cases q : r y x with
  | false => rfl
  | true => exact absurd (O.anti x y hx hy h q) hne
theorem next_zero {n : Nat} {r : Nat → Nat → Bool} (O : Ord n r) {w : Nat → Int} {k : Nat} (h : ∀ p, p < n → up n r p ≤ k → w p = 0) : ∀ p, p < n → up n r p ≤ k + 1 → nextW (List.range n) r w p = 0 := by
  intro p hp hu
  refine sm_zero fun q hq => ?_
  obtain ⟨hq, hpq⟩ := List.mem_filter.mp hq
  have hq := List.mem_range.mp hq
  rw [Bool.and_eq_true, decide_eq_true_eq] at hpq
  have := up_lt O hp hq hpq.1 fun z => hpq.2 z.symm
  exact h q hq (by omega)
/-! ### sets of atoms -/
def sgn (b : Nat → Bool) : Nat → Int
  | 0 => 1
  | k + 1 => if b k = true then -(sgn b k) else sgn b k
/-- the signed sets of which all members are good -/
theorem signed (good : Nat → Bool) : ∀ k : Nat, (sm (List.range (2 ^ k)) fun b => if (∀ i, i < k → b.testBit i = true → good i = true) then sgn b.testBit k else 0) = if (∃ i, i < k ∧ good i = true) then 0 else 1
  | 0 => by
    rw [if_neg (by rintro ⟨i, hi, _⟩; omega)]
    show sm [0] _ = 1
    rw [sm_cons, sm_nil, if_pos (fun i hi => by omega)]
    rfl
  | k + 1 => by
    have ih := signed good k
    have e : List.range (2 ^ (k + 1)) = List.range (2 ^ k) ++ (List.range (2 ^ k)).map fun b => 2 ^ k + b := by
      rw [show 2 ^ (k + 1) = 2 ^ k + 2 ^ k by rw [Nat.pow_succ]; omega, List.range_add]
    rw [e, sm_append, sm_map]
    have sg : ∀ b c k, (∀ i, i < k → Nat.testBit b i = Nat.testBit c i) → sgn b.testBit k = sgn c.testBit k := by
      intro b c k
      induction k with
      | zero => intro _; rfl
      | succ k ihk =>
        intro h
        unfold sgn
        rw [ihk fun i hi => h i (by omega), h k (by omega)]
    have lo : (sm (List.range (2 ^ k)) fun b => if (∀ i, i < k + 1 → b.testBit i = true → good i = true) then sgn b.testBit (k + 1) else 0) = sm (List.range (2 ^ k)) fun b => if (∀ i, i < k → b.testBit i = true → good i = true) then sgn b.testBit k else 0 := sm_congr fun b hb => by
      have hb := List.mem_range.mp hb
      have h0 : b.testBit k = false := Nat.testBit_lt_two_pow hb
      have : (∀ i, i < k + 1 → b.testBit i = true → good i = true) ↔ (∀ i, i < k → b.testBit i = true → good i = true) := ⟨fun h i hi => h i (by omega), fun h i hi hbi => by
        rcases Nat.lt_succ_iff_lt_or_eq.mp hi with h1 | h1
        · exact h i h1 hbi
        · rw [h1, h0] at hbi; cases hbi⟩
      by_cases q : ∀ i, i < k → b.testBit i = true → good i = true
      · rw [if_pos q, if_pos (this.mpr q)]
        show (if b.testBit k = true then _ else _) = _
        rw [h0]; rfl
      · rw [if_neg q, if_neg fun z => q (this.mp z)]
    have hi : (sm (List.range (2 ^ k)) fun b => if (∀ i, i < k + 1 → (2 ^ k + b).testBit i = true → good i = true) then sgn (2 ^ k + b).testBit (k + 1) else 0) = if good k = true then -(sm (List.range (2 ^ k)) fun b => if (∀ i, i < k → b.testBit i = true → good i = true) then sgn b.testBit k else 0) else 0 := by
      have tb : ∀ b, b < 2 ^ k → (∀ i, i < k → (2 ^ k + b).testBit i = b.testBit i) ∧ (2 ^ k + b).testBit k = true := fun b hb => ⟨fun i hi => Nat.testBit_two_pow_add_gt hi b, by
        rw [Nat.testBit_two_pow_add_eq, Nat.testBit_lt_two_pow hb]; rfl⟩
      by_cases gk : good k = true
      · rw [if_pos gk, ← sm_neg]
        refine sm_congr fun b hb => ?_
        have hb := List.mem_range.mp hb
        obtain ⟨t1, t2⟩ := tb b hb
        have : (∀ i, i < k + 1 → (2 ^ k + b).testBit i = true → good i = true) ↔ (∀ i, i < k → b.testBit i = true → good i = true) := ⟨fun h i hi hbi => h i (by omega) (by rw [t1 i hi]; exact hbi), fun h i hi hbi => by
          rcases Nat.lt_succ_iff_lt_or_eq.mp hi with h1 | h1
          · exact h i h1 (by rw [t1 i h1] at hbi; exact hbi)
          · rw [h1]; exact gk⟩
        by_cases q : ∀ i, i < k → b.testBit i = true → good i = true
        · rw [if_pos q, if_pos (this.mpr q)]
          show (if (2 ^ k + b).testBit k = true then -(sgn (2 ^ k + b).testBit k) else _) = _
          rw [if_pos t2, sg (2 ^ k + b) b k t1]
        · rw [if_neg q, if_neg fun z => q (this.mp z)]; rfl
      · rw [if_neg gk]
        refine sm_zero fun b hb => ?_
        have hb := List.mem_range.mp hb
        obtain ⟨t1, t2⟩ := tb b hb
        rw [if_neg fun h => gk (h k (by omega) t2)]
    rw [lo, hi, ih]
    by_cases gk : good k = true
    · rw [if_pos gk, if_pos (⟨k, by omega, gk⟩ : ∃ i, i < k + 1 ∧ good i = true)]
      split <;> rfl
    · rw [if_neg gk, Int.add_zero]
      have : (∃ i, i < k + 1 ∧ good i = true) ↔ ∃ i, i < k ∧ good i = true := ⟨fun ⟨i, hi, h⟩ => by
        rcases Nat.lt_succ_iff_lt_or_eq.mp hi with h1 | h1
        · exact ⟨i, h1, h⟩
        · rw [h1] at h; exact absurd h gk, fun ⟨i, hi, h⟩ => ⟨i, by omega, h⟩⟩
      by_cases q : ∃ i, i < k ∧ good i = true
      · rw [if_pos q, if_pos (this.mpr q)]
      · rw [if_neg q, if_neg fun z => q (this.mp z)]
/-- what the sets of atoms that join to z come to is the function of Moebius from the bottom on -/
theorem crosscut {n : Nat} {r : Nat → Nat → Bool} (O : Ord n r) {low : Nat} (hl : low < n) (hb : ∀ w, w < n → r low w = true) {m : Nat → Int} (M : Mu n r low m) {k : Nat} {at' : Nat → Nat} (J : Nat → Nat)
    (hJ : ∀ b, b < 2 ^ k → J b < n ∧ ∀ w, w < n → (r (J b) w = true ↔ ∀ i, i < k → b.testBit i = true → r (at' i) w = true))
    (hA : ∀ w, w < n → ((∃ i, i < k ∧ r (at' i) w = true) ↔ w ≠ low)) {z : Nat} (hz : z < n) :
    m z = sm (List.range (2 ^ k)) fun b => if J b = z then sgn b.testBit k else 0 := by
  refine sums_inj O (f := m) (g := fun z => sm (List.range (2 ^ k)) fun b => if J b = z then sgn b.testBit k else 0) (fun w hw => ?_) z hz
  rw [M.sum w hw]
  have e1 : (sm (List.range n) fun z => if r z w = true then sm (List.range (2 ^ k)) fun b => if J b = z then sgn b.testBit k else 0 else 0) = sm (List.range n) fun z => sm (List.range (2 ^ k)) fun b => if r z w = true then (if J b = z then sgn b.testBit k else 0) else 0 := sm_congr fun z _ => by
    split
    · rfl
    · exact (sm_zero fun _ _ => rfl).symm
  rw [e1, sm_swap]
  have e2 : (sm (List.range (2 ^ k)) fun b => sm (List.range n) fun z => if r z w = true then (if J b = z then sgn b.testBit k else 0) else 0) = sm (List.range (2 ^ k)) fun b => if (∀ i, i < k → b.testBit i = true → r (at' i) w = true) then sgn b.testBit k else 0 := sm_congr fun b hb => by
    obtain ⟨h1, h2⟩ := hJ b (List.mem_range.mp hb)
    rw [sm_one (a := J b) List.nodup_range (List.mem_range.mpr h1) (fun x _ hne => by
      split
      · rw [if_neg fun z => hne z.symm]
      · rfl), if_pos rfl]
    by_cases q : r (J b) w = true
    · rw [if_pos q, if_pos ((h2 w hw).mp q)]
    · rw [if_neg q, if_neg fun z => q ((h2 w hw).mpr z)]
  rw [e2, signed fun i => r (at' i) w]
  by_cases e : w = low
  · rw [if_pos e, if_neg fun z => (hA w hw).mp z e]
  · rw [if_neg e, if_pos ((hA w hw).mpr e)]
/-- Weisner's -/
theorem weisner {n : Nat} {r : Nat → Nat → Bool} (O : Ord n r) {low : Nat} (hl : low < n) (hb : ∀ w, w < n → r low w = true) {m : Nat → Int} (M : Mu n r low m) {x : Nat} (hx : x < n) (hxl : x ≠ low) (j : Nat → Nat)
    (hj : ∀ y, y < n → j y < n ∧ ∀ w, w < n → (r (j y) w = true ↔ r y w = true ∧ r x w = true)) {z : Nat} (hz : z < n) :
    (sm ((List.range n).filter fun y => decide (j y = z)) m) = 0 := by
  have key := sums_inj O (f := fun z => sm ((List.range n).filter fun y => decide (j y = z)) m) (g := fun _ => 0) (fun w hw => ?_) z hz
  · exact key
  have e0 : (sm (List.range n) fun z => if r z w = true then (0 : Int) else 0) = 0 := sm_zero fun _ _ => by split <;> rfl
  rw [e0]
  have e1 : (sm (List.range n) fun z => if r z w = true then sm ((List.range n).filter fun y => decide (j y = z)) m else 0) = sm (List.range n) fun z => sm (List.range n) fun y => if r z w = true then (if j y = z then m y else 0) else 0 := sm_congr fun z _ => by
    split
    · rw [sm_filter]
      exact sm_congr fun y _ => by simp
    · exact (sm_zero fun _ _ => rfl).symm
  rw [e1, sm_swap]
  have e2 : (sm (List.range n) fun y => sm (List.range n) fun z => if r z w = true then (if j y = z then m y else 0) else 0) = sm (List.range n) fun y => if r x w = true then (if r y w = true then m y else 0) else 0 := sm_congr fun y hy => by
    obtain ⟨h1, h2⟩ := hj y (List.mem_range.mp hy)
    rw [sm_one (a := j y) List.nodup_range (List.mem_range.mpr h1) (fun x _ hne => by
      split
      · rw [if_neg fun z => hne z.symm]
      · rfl), if_pos rfl]
    by_cases q : r (j y) w = true
    · obtain ⟨a, b⟩ := (h2 w hw).mp q
      rw [if_pos q, if_pos b, if_pos a]
    · rw [if_neg q]
      split
      · rename_i hxw
        rw [if_neg fun a => q ((h2 w hw).mpr ⟨a, hxw⟩)]
      · rfl
  rw [e2]
  by_cases q : r x w = true
  · rw [sm_congr (g := fun y => if r y w = true then m y else 0) fun y _ => by rw [if_pos q], M.sum w hw, if_neg]
    intro e
    rw [e] at q
    exact hxl (O.anti x low hx hl q (hb x hx))
  · exact sm_zero fun _ _ => by rw [if_neg q]
end MS
end
section
/-! the part between; plain Lean -/
set_option linter.all false
set_option autoImplicit false
namespace MS
theorem mu_low {n : Nat} {r : Nat → Nat → Bool} (O : Ord n r) {low : Nat} (hl : low < n) (hb : ∀ w, w < n → r low w = true) {m : Nat → Int} (M : Mu n r low m) : m low = 1 := by
  have h := M.sum low hl
  rw [if_pos rfl, sm_one (a := low) List.nodup_range (List.mem_range.mpr hl) (fun z hz hne => by
    have hz := List.mem_range.mp hz
    split
    · rename_i q
      exact absurd (O.anti z low hz hl q (hb z hz)) hne
    · rfl), if_pos (O.refl low hl)] at h
  exact h
def mid (n low high : Nat) : List Nat := (List.range n).filter fun x => decide (x ≠ low) && decide (x ≠ high)
theorem mid_below {n : Nat} {r : Nat → Nat → Bool} (O : Ord n r) {low high : Nat} (hl : low < n) (hb : ∀ w, w < n → r low w = true) (hh : high < n) (ht : ∀ w, w < n → r w high = true) {m : Nat → Int} (M : Mu n r low m) {w : Nat} (hw : w < n) (hwl : w ≠ low) :
    sm ((mid n low high).filter fun p => r p w && decide (w ≠ p)) m = -1 - m w := by
  have h := M.sum w hw
  rw [if_neg hwl] at h
  have m1 := mu_low O hl hb M
  unfold mid
  rw [List.filter_filter, sm_filter]
  have e : sm (List.range n) (fun z => (if r z w = true then m z else 0) - (if (r z w && decide (w ≠ z) && (decide (z ≠ low) && decide (z ≠ high))) = true then m z else 0)) = sm (List.range n) (fun z => (if z = low then m low else 0) + (if z = w then m w else 0)) := sm_congr fun z hz => by
    have hz := List.mem_range.mp hz
    by_cases a : z = low
    · subst a
      rw [hb w hw]
      have h' : ¬ z = w := fun q => hwl q.symm
      simp [h']
    · by_cases b : z = w
      · subst b
        simp [O.refl z hz, a]
      · have b' : w ≠ z := fun q => b q.symm
        by_cases c : z = high
        · subst c
          have : r z w = false := by
            cases q : r z w with
            | false => rfl
            | true => exact absurd (O.anti z w hz hw q (ht w hw)) b
          simp [this, a, b]
        · cases q : r z w with
          | false => simp [a, b]
          | true => simp [a, b, b', c]
  have e1 : sm (List.range n) (fun z => if z = low then m low else 0) = m low := by
    rw [sm_one (a := low) List.nodup_range (List.mem_range.mpr hl) (fun z _ hne => if_neg hne), if_pos rfl]
  have e2 : sm (List.range n) (fun z => if z = w then m w else 0) = m w := by
    rw [sm_one (a := w) List.nodup_range (List.mem_range.mpr hw) (fun z _ hne => if_neg hne), if_pos rfl]
  rw [sm_sub, h, sm_add, e1, e2, m1] at e
  omega
theorem mid_mem {n low high x : Nat} : x ∈ mid n low high ↔ x < n ∧ x ≠ low ∧ x ≠ high := by
  unfold mid
  rw [List.mem_filter, List.mem_range, Bool.and_eq_true, decide_eq_true_eq, decide_eq_true_eq]
theorem euler_E {n : Nat} {r : Nat → Nat → Bool} (O : Ord n r) {low high : Nat} (hl : low < n) (hb : ∀ w, w < n → r low w = true) (hh : high < n) (ht : ∀ w, w < n → r w high = true) {m : Nat → Int} (M : Mu n r low m) :
    ∀ q ∈ mid n low high, -m q + sm ((mid n low high).filter fun p => r p q && decide (q ≠ p)) (fun p => -m p) = 1 := fun q hq => by
  obtain ⟨h1, h2, h3⟩ := mid_mem.mp hq
  rw [sm_neg, mid_below O hl hb hh ht M h1 h2]
  omega
theorem euler_sum {n : Nat} {r : Nat → Nat → Bool} (O : Ord n r) {low high : Nat} (hl : low < n) (hb : ∀ w, w < n → r low w = true) (hh : high < n) (ht : ∀ w, w < n → r w high = true) {m : Nat → Int} (M : Mu n r low m) (hne : high ≠ low) :
    sm (mid n low high) (fun p => -m p) = 1 + m high := by
  have h := mid_below O hl hb hh ht M hh hne
  have e : (mid n low high).filter (fun p => r p high && decide (high ≠ p)) = mid n low high := List.filter_eq_self.mpr fun p hp => by
    obtain ⟨h1, h2, h3⟩ := mid_mem.mp hp
    rw [ht p h1, Bool.true_and]
    exact decide_eq_true fun q => h3 q.symm
  rw [e] at h
  rw [sm_neg, h]
  omega
end MS
end
section
set_option Elab.async false
set_option linter.all false
set_option maxRecDepth 100000
set_option autoImplicit false
set_option exponentiation.threshold 2000
namespace K50
open PySem FL
def atL (us : List Nat) : List Nat := ((covL us).filter fun p => decide (p.1 = bot us)).map (·.2)
theorem covL_len {us : List Nat} (hn : us.length ≤ 100) (hu : ∀ x, x < us.length → us.getD x 0 < 2 ^ us.length) : (covL us).length ≤ 10000 := by
  have : ∀ l : List Nat, (∀ x ∈ l, x < us.length) → (l.flatMap (covRow us)).length ≤ 100 * l.length := by
    intro l
    induction l with
    | nil => intro _; simp
    | cons x l ih =>
      intro h
      rw [List.flatMap_cons, List.length_append, List.length_cons]
      have h1 := ih fun y m => h y (List.mem_cons_of_mem _ m)
      have h2 := bl_len (hu x (h x List.mem_cons_self))
      have h3 := List.length_filter_le (cov us x) (bl (us.getD x 0))
      have h4 : (covRow us x).length ≤ 100 := by
        unfold covRow
        rw [List.length_map]
        omega
      omega
  have := this (List.range us.length) fun x m => List.mem_range.mp m
  rw [List.length_range] at this
  unfold covL
  omega
theorem atoms_spec {us : List Nat} (L : Lat us) (hn : us.length ≤ 100) : f_atoms [.d (tn us)] = .ok (.d (tn (atL us))) [] := by
  have hc := covL_len hn L.bits
  have hm := lcG (mi := mItems (mCall [] 1 f_covers (mCons (mVar 0) mNil))) (tg := .t [2, 3]) (vs := [2, 3]) (c := mTst asB (mOp oEq (mVar 2) (mVar 1))) (e := mVar 3) (ρ0 := [some (.d (tn us)), some (on (bot us)), none, none]) (ρ := [some (.d (tn us)), some (on (bot us)), none, none]) (l := covL us) prD (fun p => [some (.d (tn us)), some (on (bot us)), some (on p.1), some (on p.2)]) (fun p => decide (p.1 = bot us)) (fun p => on p.2)
    (items_t (call1 (var_d rfl) (covers_spec hn L.bits))) rfl rfl (fun p _ => ⟨rfl, tst (op2 (var_d rfl) (var_d rfl) (oEq_n _ _)), fun _ => var_d rfl, rfl, rfl⟩) (by omega)
  rw [show ((covL us).filter fun p => decide (p.1 = bot us)).map (fun p => on p.2) = ((atL us).map dn).map O.d by unfold atL; rw [List.map_map, List.map_map]; rfl] at hm
  exact fn_rt (seq_nx (set_ok (call1 (var_d rfl) (bottom_spec L hn))) (ret_ok (tuple_on hm))) rfl
/-! ### the order of some points -/
def partF (us pts : List Nat) : List Nat := pts.map fun p => orL ((List.range pts.length).filter fun i => (us.getD p 0).testBit (pts.getD i 0))
theorem part_of_spec {us pts : List Nat} (hn : pts.length ≤ 100) (hp : ∀ p ∈ pts, p < us.length) : f_part_of [.d (tn us), .d (tn pts)] = .ok (.d (tn (partF us pts))) [] := by
  have inner : ∀ p, p < us.length → mCall [] 1 f_bits_of (mCons (mFrz (mLc (mWalk kEn (mCons (mVar 1) mNil)) (.t [2, 3]) [2, 3] (mTst tru (mCall [] 2 f_has (mCons (mOp oIx (mVar 0) (mVar 4)) (mCons (mVar 3) mNil)))) (mVar 2))) mNil) [some (.d (tn us)), some (.d (tn pts)), none, none, some (on p)] = .ok (.o (on (orL ((List.range pts.length).filter fun i => (us.getD p 0).testBit (pts.getD i 0))))) [some (.d (tn us)), some (.d (tn pts)), none, none, some (on p)] := fun p hp => by
    have hm := lcG (mi := mWalk kEn (mCons (mVar 1) mNil)) (tg := .t [2, 3]) (vs := [2, 3]) (c := mTst tru (mCall [] 2 f_has (mCons (mOp oIx (mVar 0) (mVar 4)) (mCons (mVar 3) mNil)))) (e := mVar 2) (ρ0 := [some (.d (tn us)), some (.d (tn pts)), none, none, some (on p)]) (ρ := [some (.d (tn us)), some (.d (tn pts)), none, none, some (on p)]) (l := List.range pts.length) (fun i => prD (0 + i, pts.getD i 0)) (fun i => [some (.d (tn us)), some (.d (tn pts)), some (on (0 + i)), some (on (pts.getD i 0)), some (on p)]) (fun i => (us.getD p 0).testBit (pts.getD i 0)) (fun i => on i)
      (walk_gen (var_d rfl) (congrArg some (enumL_n pts 0))) rfl rfl (fun i _ => ⟨rfl, tstT (call2 (op2 (var_d rfl) (var_d rfl) (ix_t hp)) (var_d rfl) (has_spec _ _)), fun _ => by rw [← Nat.zero_add i]; exact var_d (by simp), rfl, rfl⟩) (by rw [List.length_range]; omega)
    exact call1 (frz_on hm) (bits_of_spec _ fun k hk => by
      have := List.mem_range.mp (List.mem_filter.mp hk).1
      omega)
  have hm := lcG1 (mi := mItems (mVar 1)) (tg := .n 4) (vs := [4]) (e := mCall [] 1 f_bits_of (mCons (mFrz (mLc (mWalk kEn (mCons (mVar 1) mNil)) (.t [2, 3]) [2, 3] (mTst tru (mCall [] 2 f_has (mCons (mOp oIx (mVar 0) (mVar 4)) (mCons (mVar 3) mNil)))) (mVar 2))) mNil)) (ρ0 := [some (.d (tn us)), some (.d (tn pts)), none, none, none]) (ρ := [some (.d (tn us)), some (.d (tn pts)), none, none, none]) (l := pts) dn (fun p => [some (.d (tn us)), some (.d (tn pts)), none, none, some (on p)]) (fun p => on (orL ((List.range pts.length).filter fun i => (us.getD p 0).testBit (pts.getD i 0))))
    (items_t (var_d rfl)) rfl rfl (fun p hm => ⟨rfl, inner p (hp p hm), rfl, rfl⟩) (by omega)
  rw [show pts.map (fun p => on (orL ((List.range pts.length).filter fun i => (us.getD p 0).testBit (pts.getD i 0)))) = ((partF us pts).map dn).map O.d by unfold partF; rw [List.map_map, List.map_map]; rfl] at hm
  exact fn_rt (ret_ok (tuple_on hm)) rfl
theorem partF_len (us pts : List Nat) : (partF us pts).length = pts.length := by simp [partF]
theorem partF_le {us pts : List Nat} {i j : Nat} (hi : i < pts.length) (hj : j < pts.length) : le (partF us pts) i j = le us (pts.getD i 0) (pts.getD j 0) := by
  unfold le
  rw [getD_at (by rw [partF_len]; exact hi)]
  unfold partF
  rw [List.getElem_map, testBit_orL]
  have e : pts[i] = pts.getD i 0 := (getD_at hi).symm
  rw [e]
  cases h : (us.getD (pts.getD i 0) 0).testBit (pts.getD j 0) with
  | true => exact decide_eq_true (List.mem_filter.mpr ⟨List.mem_range.mpr hj, h⟩)
  | false =>
    refine decide_eq_false fun m => ?_
    have := (List.mem_filter.mp m).2
    rw [h] at this
    cases this
theorem partF_bits {us pts : List Nat} {i : Nat} (hi : i < pts.length) : (partF us pts).getD i 0 < 2 ^ (partF us pts).length := by
  rw [partF_len, getD_at (by rw [partF_len]; exact hi)]
  unfold partF
  rw [List.getElem_map]
  exact orL_lt fun k hk => List.mem_range.mp (List.mem_filter.mp hk).1
/-! ### the number of Euler -/
theorem bl_range {us : List Nat} {x : Nat} (hu : us.getD x 0 < 2 ^ us.length) : bl (us.getD x 0) = (List.range us.length).filter fun y => le us x y := bl_eq hu
def wz (n : Nat) (w : Nat → Int) : PyData := .list ((List.range n).map fun p => .int (w p))
theorem ix_wz {n : Nat} {w : Nat → Int} {p : Nat} (hp : p < n) : oIx (wz n w) (dn p) = some (.int (w p)) := by
  unfold wz
  rw [oIx_l, List.getElem?_map, List.getElem?_range hp]; rfl
theorem any_wz {n : Nat} {w : Nat → Int} {m : M} {ρ ρ' : FL.Env} (e : m ρ = .ok (.o (.d (wz n w))) ρ') : mCallB fAnyZ (mCons m mNil) ρ = .ok (.o (.d (.bool ((List.range n).any fun p => w p != 0)))) ρ' := by
  unfold mCallB mCons mNil
  unfold wz at e
  simp only [R.bind, e, viewRs, Rv.view, O.view, fAnyZ]
  rw [show (List.range n).map (fun p => PyData.int (w p)) = ((List.range n).map w).map .int by rw [List.map_map]; rfl, intsOf_z]
  simp only [optR, List.any_map]
  rfl
theorem sum_wz {n : Nat} {w : Nat → Int} {m : M} {ρ ρ' : FL.Env} (e : m ρ = .ok (.o (.d (wz n w))) ρ') : mCallB fSum (mCons m mNil) ρ = .ok (.o (oz (MS.sm (List.range n) w))) ρ' := by
  unfold mCallB mCons mNil
  unfold wz at e
  simp only [R.bind, e, viewRs, Rv.view, O.view, fSum]
  rw [show (List.range n).map (fun p => PyData.int (w p)) = ((List.range n).map w).map .int by rw [List.map_map]; rfl, intsOf_z]
  rfl
theorem mul_sign (s z : Int) (h : s = 1 ∨ s = -1) : oMulI (.int s) (.int z) = some (.int (s * z)) := by
  have : okMul s z = true := by
    unfold okMul
    rcases h with h | h <;> subst h <;> rfl
  show (if okMul s z = true then _ else _) = _
  rw [if_pos this]
theorem euler_spec {us : List Nat} (hn : us.length ≤ 100) (hu : ∀ x, x < us.length → us.getD x 0 < 2 ^ us.length) (O : MS.Ord us.length (le us)) {E : Nat → Int} (hE : ∀ q ∈ List.range us.length, E q + MS.sm ((List.range us.length).filter fun p => le us p q && decide (q ≠ p)) E = 1) :
    f_euler_number [.d (tn us)] = .ok (oz (MS.sm (List.range us.length) E)) [] := by
  let n := us.length
  let sm := MS.sm (List.range n)
  have nextE : ∀ (w : Nat → Int) (t s : Int) , mFrz (mLc (mWalk k1 (mCons (mCallB fLen (mCons (mVar 0) mNil)) mNil)) (.n 5) [5] mYes (mCallB fSum (mCons (mLc (mItems (mCall [] 1 f_members (mCons (mOp oIx (mVar 0) (mVar 5)) mNil))) (.n 4) [4] (mTst asB (mOp oNe (mVar 4) (mVar 5))) (mOp oIx (mVar 2) (mVar 4))) mNil))) [some (.d (tn us)), some (oz t), some (.d (wz n w)), some (oz s), none, none] = .ok (.o (.d (wz n (MS.nextW (List.range n) (le us) w)))) [some (.d (tn us)), some (oz t), some (.d (wz n w)), some (oz s), none, none] := fun w t s => by
    have hm := lcG1 (mi := mWalk k1 (mCons (mCallB fLen (mCons (mVar 0) mNil)) mNil)) (tg := .n 5) (vs := [5]) (e := mCallB fSum (mCons (mLc (mItems (mCall [] 1 f_members (mCons (mOp oIx (mVar 0) (mVar 5)) mNil))) (.n 4) [4] (mTst asB (mOp oNe (mVar 4) (mVar 5))) (mOp oIx (mVar 2) (mVar 4))) mNil)) (ρ0 := [some (.d (tn us)), some (oz t), some (.d (wz n w)), some (oz s), none, none]) (l := List.range n) dn (fun x => [some (.d (tn us)), some (oz t), some (.d (wz n w)), some (oz s), none, some (on x)]) (fun x => oz (MS.nextW (List.range n) (le us) w x))
      (walk1 (len_tn (var_d rfl)) (by omega)) rfl rfl (fun x hx => by
      have hx := List.mem_range.mp hx
      have hi := lcG (mi := mItems (mCall [] 1 f_members (mCons (mOp oIx (mVar 0) (mVar 5)) mNil))) (tg := .n 4) (vs := [4]) (c := mTst asB (mOp oNe (mVar 4) (mVar 5))) (e := mOp oIx (mVar 2) (mVar 4)) (ρ0 := [some (.d (tn us)), some (oz t), some (.d (wz n w)), some (oz s), none, some (on x)]) (l := bl (us.getD x 0)) dn (fun y => [some (.d (tn us)), some (oz t), some (.d (wz n w)), some (oz s), some (on y), some (on x)]) (fun y => !decide (y = x)) (fun y => oz (w y))
        (items_t (call1 (op2 (var_d rfl) (var_d rfl) (ix_t hx)) (members_spec _ (Nat.lt_of_lt_of_le (hu x hx) (Nat.pow_le_pow_right (by omega) (by omega)))))) rfl rfl (fun y hy => ⟨rfl, tst (op2 (var_d rfl) (var_d rfl) (oNe_n y x)), fun _ => op2 (var_d rfl) (var_d rfl) (ix_wz (by rw [bl_eq (hu x hx)] at hy; exact (mem_pos.mp hy).1)), rfl, rfl⟩) (by have := bl_len (hu x hx); omega)
      have hs := sum_z hi
      rw [bl_range (hu x hx), List.filter_filter] at hs
      have e : MS.nextW (List.range n) (le us) w x = (((List.range n).filter fun y => !decide (y = x) && le us x y).map w).sum := by
        unfold MS.nextW MS.sm
        congr 2
        refine List.filter_congr fun y _ => ?_
        rw [Bool.and_comm]
        congr 1
        by_cases q : y = x <;> simp [q]
      rw [e]
      exact ⟨rfl, hs, rfl, rfl⟩) (by rw [List.length_range]; omega)
    rw [show (List.range n).map (fun x => oz (MS.nextW (List.range n) (le us) w x)) = ((List.range n).map fun x => PyData.int (MS.nextW (List.range n) (le us) w x)).map FL.O.d by rw [List.map_map]; rfl] at hm
    exact frz_d hm
  have loop := whileL_rel (t := mTst tru (mCallB fAnyZ (mCons (mVar 2) mNil))) (b := mSeq (mAug fAdd 1 (mOp oMulI (mVar 3) (mCallB fSum (mCons (mVar 2) mNil))))
    (mSeq (mSet 3 (mUn oNeg (mVar 3)))
    (mSet 2 (mFrz (mLc (mWalk k1 (mCons (mCallB fLen (mCons (mVar 0) mNil)) mNil)) (.n 5) [5] mYes (mCallB fSum (mCons (mLc (mItems (mCall [] 1 f_members (mCons (mOp oIx (mVar 0) (mVar 5)) mNil))) (.n 4) [4] (mTst asB (mOp oNe (mVar 4) (mVar 5))) (mOp oIx (mVar 2) (mVar 4))) mNil)))))))
    (fun m ρ => ∃ (w : Nat → Int) (t s : Int) (j : Nat), (s = 1 ∨ s = -1) ∧ t + s * sm (fun p => w p * E p) = sm E ∧ (∀ p, p < n → MS.up n (le us) p ≤ j → w p = 0) ∧ (((List.range n).any fun p => w p != 0) = false ∧ m = 0 ∨ ((List.range n).any fun p => w p != 0) = true ∧ m + j = n) ∧ ρ = [some (.d (tn us)), some (oz t), some (.d (wz n w)), some (oz s), none, none])
    (if ((List.range n).any fun p => (1 : Int) != 0) = true then n else 0) (n + 1) [some (.d (tn us)), some (oz 0), some (.d (wz n fun _ => 1)), some (oz 1), none, none] (by split <;> omega) ?_ ?_ ?_
  · obtain ⟨ρ', e, w, t, s, j, hs, ht, hz, hm, rfl⟩ := loop
    have e0 : t = sm E := by
      have a : ((List.range n).any fun p => w p != 0) = false := by
        rcases hm with hm | hm
        · exact hm.1
        · cases q : (List.range n).any fun p => w p != 0 with
          | false => rfl
          | true =>
            obtain ⟨p, hp, hw⟩ := List.any_eq_true.mp q
            have hp := List.mem_range.mp hp
            have hup : MS.up n (le us) p ≤ j := by
              have : MS.up n (le us) p ≤ n := by
                unfold MS.up
                exact Nat.le_trans (List.length_filter_le _ _) (by simp)
              omega
            rw [hz p hp hup] at hw
            cases hw
      have : sm (fun p => w p * E p) = 0 := MS.sm_zero fun p hp => by
        have := List.any_eq_false.mp a p hp
        have : w p = 0 := by simpa using this
        rw [this, Int.zero_mul]
      rw [this, Int.mul_zero] at ht
      omega
    rw [e0] at e
    have h0 : mRep (mLstO (mCons (mC (.int 1)) mNil)) (mCallB fLen (mCons (mVar 0) mNil)) [some (.d (tn us)), some (oz 0), none, none, none, none] = .ok (.o (.lst (((List.range n).map fun _ => PyData.int 1).map .d))) [some (.d (tn us)), some (oz 0), none, none, none, none] := rep_one (.int 1) (lstO_ok (xs := [.o (oz 1)]) (ys := [oz 1]) (ms_cons rfl ms_nil) rfl rfl) (len_tn (var_d rfl)) (by omega)
    refine fn_rt (seq_nx (set_ok rfl) (seq_nx (set_ok (frz_d h0)) (seq_nx (set_ok rfl) (seq_nx ?_ (ret_ok (var_d (ρ := [some (.d (tn us)), some (oz (sm E)), some (.d (wz n w)), some (oz s), none, none]) rfl)))))) rfl
    · show whileL _ _ (lenAt [some (.d (tn us)), some (oz 0), some (.d (wz n fun _ => 1)), some (oz 1), none, none] 0 + 1) _ = _
      have : lenAt [some (.d (tn us)), some (oz 0), some (.d (wz n fun _ => 1)), some (oz 1), none, none] 0 = n := by
        show (us.map dn).length = n
        rw [List.length_map]
      rw [this]
      exact e
  · rintro m ρ ⟨w, t, s, j, hs, ht, hz, hm, rfl⟩
    rcases hm with hm | ⟨ha, hm⟩
    · omega
    have h1 := tstT (any_wz (n := n) (w := w) (m := mVar 2) (ρ := [some (.d (tn us)), some (oz t), some (.d (wz n w)), some (oz s), none, none]) (var_d rfl))
    rw [ha] at h1
    have keep := MS.euler_keep hE w
    refine ⟨_, [some (.d (tn us)), some (oz (t + s * sm w)), some (.d (wz n (MS.nextW (List.range n) (le us) w))), some (oz (-s)), none, none], h1, .inl ?_, ?_⟩
    · exact seq_nx (set_ok (op2 (var_d rfl) (op2 (var_d rfl) (sum_wz (var_d rfl)) (mul_sign s _ hs)) (fAdd_z _ _))) (seq_nx (set_ok (neg_z (var_d rfl))) (set_ok (nextE w _ _)))
    · have ht2 : (t + s * sm w) + (-s) * sm (fun p => MS.nextW (List.range n) (le us) w p * E p) = sm E := by
        show (t + s * sm w) + (-s) * MS.sm (List.range n) (fun p => MS.nextW (List.range n) (le us) w p * E p) = sm E
        rw [keep, ← ht]
        show t + s * sm w + -s * (sm w - sm fun p => w p * E p) = t + s * sm fun p => w p * E p
        rw [Int.mul_sub, Int.neg_mul, Int.neg_mul]
        omega
      have hz2 := MS.next_zero O hz
      cases q : (List.range n).any fun p => MS.nextW (List.range n) (le us) w p != 0 with
      | false => exact ⟨0, by omega, _, _, _, j + 1, by omega, ht2, hz2, .inl ⟨q, rfl⟩, rfl⟩
      | true => exact ⟨m, Nat.le_refl _, _, _, _, j + 1, by omega, ht2, hz2, .inr ⟨q, by omega⟩, rfl⟩
  · rintro ρ ⟨w, t, s, j, hs, ht, hz, hm, rfl⟩
    have a : ((List.range n).any fun p => w p != 0) = false := by
      rcases hm with hm | hm
      · exact hm.1
      · cases q : (List.range n).any fun p => w p != 0 with
        | false => rfl
        | true =>
          obtain ⟨p, hp, hw⟩ := List.any_eq_true.mp q
          have hp := List.mem_range.mp hp
          have hup : MS.up n (le us) p ≤ j := by
            have : MS.up n (le us) p ≤ n := by
              unfold MS.up
              exact Nat.le_trans (List.length_filter_le _ _) (by simp)
            omega
          rw [hz p hp hup] at hw
          cases hw
    have h1 := tstT (any_wz (n := n) (w := w) (m := mVar 2) (ρ := [some (.d (tn us)), some (oz t), some (.d (wz n w)), some (oz s), none, none]) (var_d rfl))
    rw [a] at h1
    exact ⟨_, h1, w, t, s, j, hs, ht, hz, hm, rfl⟩
  · refine ⟨fun _ => 1, 0, 1, 0, .inl rfl, ?_, ?_, ?_, rfl⟩
    · rw [Int.zero_add, Int.one_mul]
      exact MS.sm_congr fun p _ => Int.one_mul _
    · intro p hp hup
      have : p ∈ (List.range n).filter fun z => le us p z := List.mem_filter.mpr ⟨List.mem_range.mpr hp, O.refl p hp⟩
      have := List.length_pos_of_mem this
      unfold MS.up at hup
      omega
    · cases q : (List.range n).any fun p => (1 : Int) != 0 with
      | false => exact .inl ⟨rfl, rfl⟩
      | true => exact .inr ⟨rfl, rfl⟩
end K50
end
section
set_option Elab.async false
set_option linter.all false
set_option maxRecDepth 100000
set_option autoImplicit false
set_option exponentiation.threshold 2000
namespace K50
open PySem FL
/-! ### the table of Moebius -/
def rowZ (n : Nat) (f : Nat → Int) : FL.O := .lst ((List.range n).map fun y => oz (f y))
def matZ (n : Nat) (F : Nat → Nat → Int) : FL.O := .lst ((List.range n).map fun x => rowZ n (F x))
def setF (F : Nat → Nat → Int) (a b : Nat) (v : Int) : Nat → Nat → Int := fun x y => if x = a ∧ y = b then v else F x y
theorem row_at {n : Nat} {F : Nat → Nat → Int} {a : Nat} (ha : a < n) : ((List.range n).map fun x => rowZ n (F x))[a]? = some (rowZ n (F a)) := by
  rw [List.getElem?_map, List.getElem?_range ha]; rfl
theorem cell_at {n : Nat} {f : Nat → Int} {b : Nat} (hb : b < n) : ((List.range n).map fun y => oz (f y))[b]? = some (oz (f b)) := by
  rw [List.getElem?_map, List.getElem?_range hb]; rfl
theorem ix2_z {ρ : FL.Env} {j i k n a b : Nat} {F : Nat → Nat → Int} (hm : ρ[j]? = some (some (matZ n F))) (hi : ρ[i]? = some (some (on a))) (hk : ρ[k]? = some (some (on b))) (ha : a < n) (hb : b < n) : mIx2 j i k ρ = .ok (.o (oz (F a b))) ρ := by
  unfold mIx2
  simp only [hm, matZ, intAt_n hi, intAt_n hk, atI_n, row_at ha]
  simp only [rowZ, atI_n, cell_at hb]
theorem set_range {α : Type} (n a : Nat) (f : Nat → α) (v : α) : ((List.range n).map f).set a v = (List.range n).map fun x => if x = a then v else f x := by
  apply List.ext_getElem?
  intro i
  rw [List.getElem?_set, List.getElem?_map, List.getElem?_map, List.length_map, List.length_range]
  by_cases hi : i < n
  · rw [List.getElem?_range hi]
    by_cases e : a = i
    · subst e
      rw [if_pos rfl, if_pos hi]
      simp
    · rw [if_neg e]
      have e' : ¬ i = a := fun q => e q.symm
      simp [e']
  · have e1 : (List.range n)[i]? = none := by simp; omega
    rw [e1]
    split
    · rename_i e
      rw [if_neg (by omega)]; rfl
    · rfl
theorem setIx2_z {ρ ρ1 : FL.Env} {j i k n a b : Nat} {F : Nat → Nat → Int} {m : M} {v : Int} (e : m ρ = .ok (.o (oz v)) ρ1) (hm : ρ1[j]? = some (some (matZ n F))) (hi : ρ1[i]? = some (some (on a))) (hk : ρ1[k]? = some (some (on b))) (ha : a < n) (hb : b < n) : mSetIx2 j i k m ρ = .nx (ρ1.set j (some (matZ n (setF F a b v)))) := by
  have e1 : L2.ixN ((List.range n).map fun x => rowZ n (F x)).length (a : Int) = some a := ixN_n (by simpa using ha)
  have e2 : L2.ixN ((List.range n).map fun y => oz (F a y)).length (b : Int) = some b := ixN_n (by simpa using hb)
  have key : ((List.range n).map fun x => rowZ n (F x)).set a (.lst (((List.range n).map fun y => oz (F a y)).set b (oz v))) = (List.range n).map fun x => rowZ n (setF F a b v x) := by
    rw [set_range, set_range]
    refine List.map_congr_left fun x _ => ?_
    by_cases q : x = a
    · subst q
      rw [if_pos rfl]
      unfold rowZ setF
      congr 1
      refine List.map_congr_left fun y _ => ?_
      by_cases q2 : y = b
      · rw [if_pos q2, if_pos ⟨rfl, q2⟩]
      · rw [if_neg q2, if_neg fun z => q2 z.2]
    · rw [if_neg q]
      unfold rowZ setF
      congr 1
      refine List.map_congr_left fun y _ => ?_
      rw [if_neg fun z => q z.1]
  unfold mSetIx2
  rw [e]
  simp only [R.toS, Rv.datR, O.dat, hm, matZ, intAt_n hi, intAt_n hk, e1, row_at ha]
  simp only [rowZ, e2, cell_at hb]
  rw [show (List.range n).map (fun x => FL.O.lst ((List.range n).map fun y => oz (setF F a b v x y))) = (List.range n).map (fun x => rowZ n (setF F a b v x)) from rfl, ← key]
  rfl
/-- one row is right -/
structure RowOk (us : List Nat) (x : Nat) (f : Nat → Int) : Prop where
  out : ∀ y, y < us.length → le us x y = false → f y = 0
  one : f x = 1
  sum : ∀ y, y < us.length → le us x y = true → y ≠ x → f y = -(MS.sm ((List.range us.length).filter fun z => le us x z && le us z y && decide (z ≠ y)) f)
theorem lat_ord {us : List Nat} (L : Lat us) : MS.Ord us.length (le us) := ⟨L.refl, L.trans, L.anti⟩
def size (us : List Nat) (x y : Nat) : Nat := (bl ((dual us).getD y 0 &&& us.getD x 0)).length
theorem and_bl {us : List Nat} (L : Lat us) {x y : Nat} (hx : x < us.length) (hy : y < us.length) : bl ((dual us).getD y 0 &&& us.getD x 0) = (List.range us.length).filter fun z => le us x z && le us z y := by
  have hlt : (dual us).getD y 0 &&& us.getD x 0 < 2 ^ us.length := Nat.lt_of_le_of_lt Nat.and_le_right (L.bits x hx)
  rw [bl_eq hlt]
  unfold pos
  refine List.filter_congr fun z hz => ?_
  have hz := List.mem_range.mp hz
  rw [Nat.testBit_and, Bool.and_comm]
  congr 1
  exact dual_le hy hz
theorem size_lt {us : List Nat} (L : Lat us) {x y z : Nat} (hx : x < us.length) (hy : y < us.length) (hz : z < us.length) (hxz : le us x z = true) (hzy : le us z y = true) (hne : z ≠ y) : size us x z < size us x y := by
  unfold size
  rw [and_bl L hx hz, and_bl L hx hy]
  refine MS.filter_lt (a := y) (fun w hw h => ?_) (List.mem_range.mpr hy) ?_ ?_
  · rw [Bool.and_eq_true] at h ⊢
    exact ⟨h.1, L.trans w z y (List.mem_range.mp hw) hz hy h.2 hzy⟩
  · cases q : le us y z with
    | false => rw [Bool.and_false]
    | true => exact absurd (L.anti z y hz hy hzy q) hne
  · rw [L.trans x z y hx hz hy hxz hzy, L.refl y hy]; rfl
/-- the pairs in their order -/
def rowL (us : List Nat) (x : Nat) : List (Nat × Nat) := sortP ((bl (us.getD x 0)).map fun y => (size us x y, y))
theorem rowL_mem {us : List Nat} (L : Lat us) {x : Nat} (hx : x < us.length) {p : Nat × Nat} : p ∈ rowL us x ↔ p.1 = size us x p.2 ∧ p.2 < us.length ∧ le us x p.2 = true := by
  unfold rowL
  rw [(sortP_perm _).mem_iff, List.mem_map, bl_range (L.bits x hx)]
  constructor
  · rintro ⟨y, hy, rfl⟩
    obtain ⟨h1, h2⟩ := List.mem_filter.mp hy
    exact ⟨rfl, List.mem_range.mp h1, h2⟩
  · rintro ⟨h1, h2, h3⟩
    exact ⟨p.2, List.mem_filter.mpr ⟨List.mem_range.mpr h2, h3⟩, by rw [← h1]⟩
theorem size_le {us : List Nat} (L : Lat us) {x y : Nat} (hx : x < us.length) (hy : y < us.length) : size us x y ≤ us.length := by
  unfold size
  rw [and_bl L hx hy]
  exact Nat.le_trans (List.length_filter_le _ _) (by simp)
/-- what stands ahead of a pair -/
theorem rowL_cut {us : List Nat} (L : Lat us) (hn : us.length ≤ 60) {x : Nat} (hx : x < us.length) {done rest : List (Nat × Nat)} {p : Nat × Nat} (h : rowL us x = done ++ p :: rest) :
    (∀ z, z < us.length → le us x z = true → le us z p.2 = true → z ≠ p.2 → (size us x z, z) ∈ done) ∧ (∀ q ∈ done, q.2 ≠ p.2 ∧ (le us p.2 q.2 = true → False)) := by
  have srt : (rowL us x).Pairwise LeP := sortP_sorted _
  have nd : ((rowL us x).map (·.2)).Nodup := by
    have pm := (sortP_perm ((bl (us.getD x 0)).map fun y => (size us x y, y))).map (·.2)
    refine pm.nodup_iff.mpr ?_
    rw [List.map_map]
    have : ((fun p : Nat × Nat => p.2) ∘ fun y => (size us x y, y)) = id := rfl
    rw [this, List.map_id, bl_range (L.bits x hx)]
    exact List.nodup_range.filter _
  have hp := (rowL_mem L hx).mp (show p ∈ rowL us x by rw [h]; simp)
  rw [h] at srt nd
  obtain ⟨s1, s2, s3⟩ := List.pairwise_append.mp srt
  rw [List.map_append, List.map_cons] at nd
  obtain ⟨n1, n2, n3⟩ := List.nodup_append.mp nd
  have key : ∀ a b : Nat, a < us.length → b < us.length → size us x a < size us x b → keyP (size us x a, a) < keyP (size us x b, b) := fun a b ha hb hlt => by
    unfold keyP
    omega
  refine ⟨fun z hz h1 h2 h3 => ?_, fun q hq => ⟨?_, fun hle => ?_⟩⟩
  · have hk := key z p.2 hz hp.2.1 (size_lt L hx hp.2.1 hz h1 h2 h3)
    rw [← hp.1] at hk
    have eta : keyP (p.1, p.2) = keyP p := rfl
    have hm := (rowL_mem L hx (p := (size us x z, z))).mpr ⟨rfl, hz, h1⟩
    rw [h] at hm
    rcases List.mem_append.mp hm with m | m
    · exact m
    · rcases List.mem_cons.mp m with m | m
      · rw [← m] at hk
        exact absurd hk (Nat.lt_irrefl _)
      · have := (List.pairwise_cons.mp s2).1 _ m
        unfold LeP at this
        omega
  · exact n3 q.2 (List.mem_map.mpr ⟨q, hq, rfl⟩) p.2 List.mem_cons_self
  · have hqm := (rowL_mem L hx).mp (show q ∈ rowL us x by rw [h]; exact List.mem_append_left _ hq)
    have hne : p.2 ≠ q.2 := fun e => n3 q.2 (List.mem_map.mpr ⟨q, hq, rfl⟩) p.2 List.mem_cons_self e.symm
    have hk := key p.2 q.2 hp.2.1 hqm.2.1 (size_lt L hx hqm.2.1 hp.2.1 hp.2.2 hle hne)
    rw [← hp.1, ← hqm.1] at hk
    have eta : keyP (p.1, p.2) = keyP p := rfl
    have eta2 : keyP (q.1, q.2) = keyP q := rfl
    have := s3 q hq p List.mem_cons_self
    unfold LeP at this
    omega
/-- the row while it is filled -/
structure Part (us : List Nat) (x : Nat) (done : List (Nat × Nat)) (f : Nat → Int) : Prop where
  one : f x = 1
  no : ∀ y, y < us.length → y ≠ x → (∀ p ∈ done, p.2 ≠ y) → f y = 0
  sum : ∀ p ∈ done, p.2 ≠ x → f p.2 = -(MS.sm ((List.range us.length).filter fun z => le us x z && le us z p.2 && decide (z ≠ p.2)) f)
theorem part_end {us : List Nat} (L : Lat us) {x : Nat} (hx : x < us.length) {f : Nat → Int} (h : Part us x (rowL us x) f) : RowOk us x f := by
  refine ⟨fun y hy hle => h.no y hy (fun e => by rw [e, L.refl x hx] at hle; cases hle) fun p hp e => ?_, h.one, fun y hy hle hne => h.sum (size us x y, y) ((rowL_mem L hx).mpr ⟨rfl, hy, hle⟩) hne⟩
  have := ((rowL_mem L hx).mp hp).2.2
  rw [e, hle] at this
  cases this
theorem part_step {us : List Nat} (L : Lat us) (hn : us.length ≤ 60) {x : Nat} (hx : x < us.length) {done rest : List (Nat × Nat)} {p : Nat × Nat} (hc : rowL us x = done ++ p :: rest) {f g : Nat → Int} (h : Part us x done f) (hpx : p.2 ≠ x)
    (hg : ∀ y, y < us.length → g y = if y = p.2 then -(MS.sm ((List.range us.length).filter fun z => le us x z && le us z p.2 && decide (z ≠ p.2)) f) else f y) : Part us x (done ++ [p]) g := by
  obtain ⟨c1, c2⟩ := rowL_cut L hn hx hc
  have hp := (rowL_mem L hx).mp (show p ∈ rowL us x by rw [hc]; simp)
  refine ⟨?_, fun y hy hne hno => ?_, fun q hq hqx => ?_⟩
  · rw [hg x hx, if_neg fun e => hpx e.symm, h.one]
  · rw [hg y hy, if_neg fun e => hno p (by simp) e.symm]
    exact h.no y hy hne fun q hq => hno q (List.mem_append_left _ hq)
  · have hqm := (rowL_mem L hx).mp (show q ∈ rowL us x by rw [hc]; rcases List.mem_append.mp hq with m | m <;> simp_all)
    have same : MS.sm ((List.range us.length).filter fun z => le us x z && le us z q.2 && decide (z ≠ q.2)) g = MS.sm ((List.range us.length).filter fun z => le us x z && le us z q.2 && decide (z ≠ q.2)) f := MS.sm_congr fun z hz => by
      obtain ⟨h1, h2⟩ := List.mem_filter.mp hz
      have h1 := List.mem_range.mp h1
      rw [Bool.and_eq_true, Bool.and_eq_true, decide_eq_true_eq] at h2
      rw [hg z h1, if_neg]
      intro e
      rcases List.mem_append.mp hq with m | m
      · exact (c2 q m).2 (by rw [← e]; exact h2.1.2)
      · rw [List.mem_singleton] at m
        exact h2.2 (by rw [e, m])
    rw [same, hg q.2 hqm.2.1]
    rcases List.mem_append.mp hq with m | m
    · rw [if_neg (c2 q m).1]
      exact h.sum q m hqx
    · rw [List.mem_singleton] at m
      rw [m, if_pos rfl]
theorem part_skip {us : List Nat} {x : Nat} {done : List (Nat × Nat)} {p : Nat × Nat} {f : Nat → Int} (h : Part us x done f) (hpx : p.2 = x) : Part us x (done ++ [p]) f := by
  refine ⟨h.one, fun y hy hne hno => h.no y hy hne fun q hq => hno q (List.mem_append_left _ hq), fun q hq hqx => ?_⟩
  rcases List.mem_append.mp hq with m | m
  · exact h.sum q m hqx
  · rw [List.mem_singleton] at m
    exact absurd (by rw [m]; exact hpx) hqx
def tabZ (n : Nat) (F : Nat → Nat → Int) : PyData := .tuple ((List.range n).map fun x => .tuple ((List.range n).map fun y => .int (F x y)))
def tabY (n : Nat) (F : Nat → Nat → Int) : PyData := .list ((List.range n).map fun x => .list ((List.range n).map fun y => .int (F x y)))
theorem mat_dat (n : Nat) (F : Nat → Nat → Int) : (matZ n F).dat = some (tabY n F) := by
  have h2 : ∀ f : Nat → Int, (rowZ n f).dat = some (.list ((List.range n).map fun y => .int (f y))) := fun f => by
    unfold rowZ
    rw [O.dat, show (List.range n).map (fun y => oz (f y)) = ((List.range n).map fun y => PyData.int (f y)).map FL.O.d by rw [List.map_map]; rfl, datL_map]
  have h1 : ∀ l : List Nat, datL (l.map fun x => rowZ n (F x)) = some (l.map fun x => .list ((List.range n).map fun y => .int (F x y))) := by
    intro l
    induction l with
    | nil => rfl
    | cons x l ih => rw [List.map_cons, datL, h2, ih]; rfl
  unfold matZ
  rw [O.dat, h1]
  rfl
theorem fz_dat {i : Nat} {ρ : FL.Env} {o : FL.O} {x : PyData} (h : ρ[i]? = some (some o)) (e : o.dat = some x) : mFz i ρ = .ok (.o (.d x)) (ρ.set i (some (.d x))) := by
  unfold mFz
  simp only [h, e]
theorem tuple_of {m : M} {ρ ρ' : FL.Env} {xs : List PyData} (e : m ρ = .ok (.o (.d (.list xs))) ρ') : mCallB fTuple (mCons m mNil) ρ = .ok (.o (.d (.tuple xs))) ρ' := by
  unfold mCallB mCons mNil
  rw [e]
  rfl
def ROW : MS := mIfS (mTst asB (mOp oNe (mVar 8) (mVar 5)))
  (mSetIx2 2 5 8 (mUn oNeg (mCallB fSum (mCons (mLc (mItems (mCall [] 3 f_between (mCons (mVar 0) (mCons (mVar 5) (mCons (mVar 8) mNil))))) (.n 3) [3] (mTst asB (mOp oNe (mVar 3) (mVar 8))) (mIx2 2 5 3)) mNil))))
  mSkip
def TURN : MS := (mSeq (mSetIx2 2 5 5 (mC (.int 1)))
  (mSeq (mSet 6 (mFrz (mCallL lSortP (mCons (mLc (mItems (mCall [] 1 f_members (mCons (mOp oIx (mVar 0) (mVar 5)) mNil))) (.n 3) [3] mYes (mTup (mCons (mCall [] 1 f_count (mCons (mOp oAnd (mOp oIx (mVar 4) (mVar 3)) (mOp oIx (mVar 0) (mVar 5))) mNil)) (mCons (mVar 3) mNil)))) mNil))))
  (mFor (mItems (mVar 6)) (.t [7, 8]) ROW)))
def Sm (us : List Nat) (F : Nat → Nat → Int) (y3 x5 r6 y7 y8 : Option FL.O) : FL.Env := [some (.d (tn us)), some (on us.length), some (matZ us.length F), y3, some (.d (tn (dual us))), x5, r6, y7, y8]
theorem sortP_call {m : M} {ρ ρ' : FL.Env} {ps : List (Nat × Nat)} (e : m ρ = .ok (.o (.lst ((ps.map prD).map .d))) ρ') (h : ps.length < 64) (hs : ∀ p ∈ ps, smallP p = true) : mCallL lSortP (mCons m mNil) ρ = .ok (.o (.lst (((sortP ps).map prD).map .d))) ρ' := by
  unfold mCallL mCons mNil
  simp only [R.bind, e, viewRs, Rv.view, O.view, allD_map, lSortP, prsOf_map]
  rw [if_pos (by rw [Bool.and_eq_true, Nat.blt_eq, List.all_eq_true]; exact ⟨h, hs⟩)]
theorem row_ok {us : List Nat} (L : Lat us) (hn : us.length ≤ 60) {x : Nat} (hx : x < us.length) {F : Nat → Nat → Int} (hF : ∀ y, y < us.length → F x y = 0) {r6 y7 y8 : Option FL.O} :
    ∃ G r6' y7' y8', RowOk us x (G x) ∧ (∀ a, a ≠ x → G a = F a) ∧ Dy r6' ∧ TURN (Sm us F none (some (on x)) r6 y7 y8) = .nx (Sm us G none (some (on x)) r6' y7' y8') := by
  have hd := dual_len us
  have hb : ∀ b, b < 2 ^ us.length → b < 2 ^ 1000 := fun b h => Nat.lt_of_lt_of_le h (Nat.pow_le_pow_right (by omega) (by omega))
  have hbl := bl_len (L.bits x hx)
  let F1 := setF F x x 1
  have e1 : mSetIx2 2 5 5 (mC (.int 1)) (Sm us F none (some (on x)) r6 y7 y8) = .nx (Sm us F1 none (some (on x)) r6 y7 y8) := setIx2_z (n := us.length) (v := 1) rfl rfl rfl rfl hx hx
  have hm := lcG1 (mi := mItems (mCall [] 1 f_members (mCons (mOp oIx (mVar 0) (mVar 5)) mNil))) (tg := .n 3) (vs := [3]) (e := mTup (mCons (mCall [] 1 f_count (mCons (mOp oAnd (mOp oIx (mVar 4) (mVar 3)) (mOp oIx (mVar 0) (mVar 5))) mNil)) (mCons (mVar 3) mNil))) (ρ0 := Sm us F1 none (some (on x)) r6 y7 y8) (l := bl (us.getD x 0)) dn (fun y => Sm us F1 (some (on y)) (some (on x)) r6 y7 y8) (fun y => .d (prD (size us x y, y)))
    (items_t (call1 (op2 (var_d rfl) (var_d rfl) (ix_t hx)) (members_spec _ (hb _ (L.bits x hx))))) rfl rfl (fun y hy => by
      have hy : y < us.length := by rw [bl_eq (L.bits x hx)] at hy; exact (mem_pos.mp hy).1
      exact ⟨rfl, tup_ok (ms_cons (call1 (op2 (op2 (var_d rfl) (var_d rfl) (ix_t (by omega))) (op2 (var_d rfl) (var_d rfl) (ix_t hx)) (oAnd_n _ _)) (count_spec _ (hb _ (Nat.lt_of_le_of_lt Nat.and_le_right (L.bits x hx))))) (ms_cons (var_d rfl) ms_nil)) rfl rfl, rfl, rfl⟩) (by omega)
  rw [show (bl (us.getD x 0)).map (fun y => FL.O.d (prD (size us x y, y))) = (((bl (us.getD x 0)).map fun y => (size us x y, y)).map prD).map FL.O.d by rw [List.map_map, List.map_map]; rfl] at hm
  have hs := sortP_call hm (by rw [List.length_map]; omega) (fun p hp => by
    obtain ⟨y, hy, rfl⟩ := List.mem_map.mp hp
    have hy : y < us.length := by rw [bl_eq (L.bits x hx)] at hy; exact (mem_pos.mp hy).1
    have := size_le L hx hy
    unfold smallP
    rw [Bool.and_eq_true, Nat.blt_eq, Nat.blt_eq]
    simp only
    omega)
  obtain ⟨ρ', e, G, y7', y8', hp, ho, rfl⟩ := forG (tg := .t [7, 8]) (b := ROW) (full := rowL us x) (ρ := Sm us F1 none (some (on x)) (some (.d (.list ((rowL us x).map prD)))) y7 y8) prD
    (fun done ρ => ∃ G y7 y8, Part us x done (G x) ∧ (∀ a, a ≠ x → G a = F a) ∧ ρ = Sm us G none (some (on x)) (some (.d (.list ((rowL us x).map prD)))) y7 y8) (by
      rintro done p rest ρ hc ⟨G, y7, y8, hp, ho, rfl⟩
      have hpm := (rowL_mem L hx).mp (show p ∈ rowL us x by rw [hc]; simp)
      have t := tst (op2 (m := mVar 8) (m2 := mVar 5) (ρ := Sm us G none (some (on x)) (some (.d (.list ((rowL us x).map prD)))) (some (on p.1)) (some (on p.2))) (var_d rfl) (var_d rfl) (oNe_n p.2 x))
      by_cases q : p.2 = x
      · rw [decide_eq_true q] at t
        exact ⟨_, _, rfl, .inl (if_f t rfl), G, _, _, part_skip hp q, ho, rfl⟩
      · rw [decide_eq_false q] at t
        have hi := lcG (mi := mItems (mCall [] 3 f_between (mCons (mVar 0) (mCons (mVar 5) (mCons (mVar 8) mNil))))) (tg := .n 3) (vs := [3]) (c := mTst asB (mOp oNe (mVar 3) (mVar 8))) (e := mIx2 2 5 3) (ρ0 := Sm us G none (some (on x)) (some (.d (.list ((rowL us x).map prD)))) (some (on p.1)) (some (on p.2))) (l := bl (us.getD x 0 &&& (dual us).getD p.2 0)) dn (fun z => Sm us G (some (on z)) (some (on x)) (some (.d (.list ((rowL us x).map prD)))) (some (on p.1)) (some (on p.2))) (fun z => !decide (z = p.2)) (fun z => oz (G x z))
          (items_t (call3 (var_d rfl) (var_d rfl) (var_d rfl) (between_spec (by omega) hx hpm.2.1 (L.bits x hx)))) rfl rfl (fun z hz => by
            have hz : z < us.length := by
              rw [Nat.and_comm, and_bl L hx hpm.2.1] at hz
              exact List.mem_range.mp (List.mem_filter.mp hz).1
            exact ⟨rfl, tst (op2 (var_d rfl) (var_d rfl) (oNe_n _ _)), fun _ => ix2_z (n := us.length) rfl rfl rfl hx hz, rfl, rfl⟩) (by
            have := bl_len (b := us.getD x 0 &&& (dual us).getD p.2 0) (n := us.length) (Nat.lt_of_le_of_lt Nat.and_le_left (L.bits x hx))
            omega)
        have hz := neg_z (sum_z hi)
        have hset := setIx2_z (j := 2) (i := 5) (k := 8) (n := us.length) (F := G) hz rfl rfl rfl hx hpm.2.1
        rw [Nat.and_comm, and_bl L hx hpm.2.1, List.filter_filter] at hset
        refine ⟨_, _, rfl, .inl (if_t t hset), _, _, _, part_step L hn hx hc hp q (fun y hy => ?_), fun a ha => ?_, rfl⟩
        · unfold setF
          by_cases e : y = p.2
          · rw [if_pos ⟨rfl, e⟩, if_pos e]
            congr 1
            unfold MS.sm
            congr 2
            refine List.filter_congr fun z _ => ?_
            rw [Bool.and_comm]
            congr 1
            by_cases w : z = p.2 <;> simp [w]
          · rw [if_neg fun w => e w.2, if_neg e]
        · funext y
          unfold setF
          rw [if_neg fun w => ha w.1, ho a ha]) ⟨F1, y7, y8, ⟨by show setF F x x 1 x x = 1; unfold setF; rw [if_pos ⟨rfl, rfl⟩], fun y hy hne _ => by
            show setF F x x 1 x y = 0
            unfold setF
            rw [if_neg fun w => hne w.2]
            exact hF y hy, fun p hp => (nomatch hp)⟩, fun a ha => by
            funext y
            show setF F x x 1 a y = F a y
            unfold setF
            rw [if_neg fun w => ha w.1], rfl⟩
  exact ⟨G, _, _, _, part_end L hx hp, ho, .inr ⟨_, rfl⟩, seq_nx e1 (seq_nx (set_ok (frz_d hs)) (for_ok (items_l (var_d rfl)) e))⟩
theorem moebius_spec {us : List Nat} (L : Lat us) (hn : us.length ≤ 60) : ∃ F : Nat → Nat → Int, (∀ x, x < us.length → RowOk us x (F x)) ∧ f_moebius_table [.d (tn us)] = .ok (.d (tabZ us.length F)) [] := by
  have hm := lcG1 (mi := mWalk k1 (mCons (mVar 1) mNil)) (tg := .n 3) (vs := [3]) (e := mRep (mLstO (mCons (mC (.int 0)) mNil)) (mVar 1)) (ρ0 := [some (.d (tn us)), some (on us.length), none, none, none, none, none, none, none]) (l := List.range us.length) dn (fun x => [some (.d (tn us)), some (on us.length), none, some (on x), none, none, none, none, none]) (fun x => rowZ us.length fun _ => 0)
    (walk1 (var_d rfl) (by omega)) rfl rfl (fun x hx => ⟨rfl, by
      have := rep_one (.int 0) (lstO_ok (ms := mCons (mC (.int 0)) mNil) (ρ := [some (.d (tn us)), some (on us.length), none, some (on x), none, none, none, none, none]) (xs := [.o (oz 0)]) (ys := [oz 0]) (ms_cons rfl ms_nil) rfl rfl) (mb := mVar 1) (k := us.length) (var_d rfl) (by omega)
      rw [List.map_map] at this
      exact this, rfl, rfl⟩) (by rw [List.length_range]; omega)
  obtain ⟨ρ', e, F, y3, x5, r6, y7, y8, hdone, _, hy3, hr6, rfl⟩ := forG (tg := .n 5) (b := TURN) (full := List.range us.length) (ρ := Sm us (fun _ _ => 0) none none none none none) dn
    (fun done ρ => ∃ F y3 x5 r6 y7 y8, (∀ x ∈ done, RowOk us x (F x)) ∧ (∀ x, x < us.length → x ∉ done → ∀ y, F x y = 0) ∧ y3 = none ∧ Dy r6 ∧ ρ = Sm us F y3 x5 r6 y7 y8) (by
      rintro done x rest ρ hc ⟨F, y3, x5, r6, y7, y8, h1, h2, rfl, hr6, rfl⟩
      have hx : x < us.length := List.mem_range.mp (by rw [hc]; simp)
      have hnx : x ∉ done := fun m => by
        have := List.nodup_range (n := us.length)
        rw [hc] at this
        exact (List.nodup_append.mp this).2.2 x m x List.mem_cons_self rfl
      obtain ⟨G, r6', y7', y8', g1, g2, g4, g3⟩ := row_ok L hn hx (F := F) (fun y _ => h2 x hx hnx y) (r6 := r6) (y7 := y7) (y8 := y8)
      refine ⟨_, _, rfl, .inl g3, G, none, _, r6', y7', y8', fun a ha => ?_, fun a ha hna y => ?_, rfl, g4, rfl⟩
      · rcases List.mem_append.mp ha with m | m
        · by_cases q : a = x
          · rw [q]; exact g1
          · rw [g2 a q]; exact h1 a m
        · rw [List.mem_singleton] at m
          rw [m]; exact g1
      · have q : a ≠ x := fun z => hna (by rw [z]; simp)
        rw [g2 a q]
        exact h2 a ha (fun m => hna (List.mem_append_left _ m)) y) ⟨_, none, none, none, none, none, fun x h => (nomatch h), fun _ _ _ _ => rfl, rfl, Dy.non, rfl⟩
  subst hy3
  refine ⟨F, fun x hx => hdone x (List.mem_range.mpr hx), ?_⟩
  have hl : mLc (mItems (mFz 2)) (.n 6) [6] mYes (mCallB fTuple (mCons (mVar 6) mNil)) (Sm us F none x5 none y7 y8) = .ok (.o (.lst (((List.range us.length).map fun x => PyData.tuple ((List.range us.length).map fun y => .int (F x y))).map FL.O.d))) ((Sm us F none x5 none y7 y8).set 2 (some (.d (tabY us.length F)))) := by
    have := lcG1 (mi := mItems (mFz 2)) (tg := .n 6) (vs := [6]) (e := mCallB fTuple (mCons (mVar 6) mNil)) (ρ0 := Sm us F none x5 none y7 y8) (ρ := (Sm us F none x5 none y7 y8).set 2 (some (.d (tabY us.length F)))) (l := List.range us.length) (fun x => .list ((List.range us.length).map fun y => .int (F x y))) (fun x => ((Sm us F none x5 (some (.d (.list ((List.range us.length).map fun y => .int (F x y))))) y7 y8).set 2 (some (.d (tabY us.length F))))) (fun x => .d (.tuple ((List.range us.length).map fun y => .int (F x y)))) (items_l (fz_dat rfl (mat_dat _ _))) rfl rfl (fun x _ => ⟨rfl, tuple_of (var_d rfl), rfl, rfl⟩) (by rw [List.length_range]; omega)
    rw [List.map_map]
    exact this
  have hw : mLc (mItems (mFz 2)) (.n 6) [6] mYes (mCallB fTuple (mCons (mVar 6) mNil)) (Sm us F none x5 r6 y7 y8) = mLc (mItems (mFz 2)) (.n 6) [6] mYes (mCallB fTuple (mCons (mVar 6) mNil)) (Sm us F none x5 none y7 y8) := by
    have a1 : mItems (mFz 2) (Sm us F none x5 r6 y7 y8) = .ok ((List.range us.length).map fun x => .list ((List.range us.length).map fun y => .int (F x y))) ((Sm us F none x5 r6 y7 y8).set 2 (some (.d (tabY us.length F)))) := items_l (fz_dat rfl (mat_dat _ _))
    have a2 : mItems (mFz 2) (Sm us F none x5 none y7 y8) = .ok ((List.range us.length).map fun x => .list ((List.range us.length).map fun y => .int (F x y))) ((Sm us F none x5 none y7 y8).set 2 (some (.d (tabY us.length F)))) := items_l (fz_dat rfl (mat_dat _ _))
    have d1 : dataSlots ((Sm us F none x5 r6 y7 y8).set 2 (some (.d (tabY us.length F)))) [6] = true := by
      rcases hr6 with rfl | ⟨z, rfl⟩ <;> rfl
    have d2 : dataSlots ((Sm us F none x5 none y7 y8).set 2 (some (.d (tabY us.length F)))) [6] = true := rfl
    have w1 : wipeE ((Sm us F none x5 r6 y7 y8).set 2 (some (.d (tabY us.length F)))) [6] = wipeE ((Sm us F none x5 none y7 y8).set 2 (some (.d (tabY us.length F)))) [6] := rfl
    simp only [mLc, a1, a2, R.bind, d1, d2, if_true, w1]
  exact fn_rt (seq_nx (set_ok (len_tn (var_d rfl))) (seq_nx (set_ok hm) (seq_nx (set_ok (call1 (var_d rfl) (below_spec us (by omega)))) (seq_nx (for_ok (walk1 (var_d rfl) (by omega)) e) (ret_ok (tuple_on (hw.trans hl))))))) rfl
end K50
end
section
set_option Elab.async false
set_option linter.all false
set_option maxRecDepth 100000
set_option autoImplicit false
set_option exponentiation.threshold 2000
namespace K50
open PySem FL
/-! ### atoms -/
theorem at_flat {us : List Nat} {low : Nat} : ∀ {l : List Nat}, l.Nodup → (l.flatMap (covRow us)).filter (fun p => decide (p.1 = low)) = if low ∈ l then covRow us low else []
  | [], _ => rfl
  | x :: l, nd => by
    have nd := List.nodup_cons.mp nd
    rw [List.flatMap_cons, List.filter_append, at_flat nd.2]
    by_cases q : x = low
    · subst q
      have e1 : (covRow us x).filter (fun p => decide (p.1 = x)) = covRow us x := List.filter_eq_self.mpr fun p hp => by
        unfold covRow at hp
        obtain ⟨y, _, rfl⟩ := List.mem_map.mp hp
        exact decide_eq_true rfl
      rw [e1, if_neg nd.1, List.append_nil, if_pos List.mem_cons_self]
    · have e1 : (covRow us x).filter (fun p => decide (p.1 = low)) = [] := List.filter_eq_nil_iff.mpr fun p hp => by
        unfold covRow at hp
        obtain ⟨y, _, rfl⟩ := List.mem_map.mp hp
        simpa using q
      rw [e1, List.nil_append]
      by_cases q2 : low ∈ l
      · rw [if_pos q2, if_pos (List.mem_cons_of_mem _ q2)]
      · rw [if_neg q2, if_neg fun m => (List.mem_cons.mp m).elim (fun e => q e.symm) q2]
theorem atL_eq {us : List Nat} (L : Lat us) : atL us = (bl (us.getD (bot us) 0)).filter (cov us (bot us)) := by
  unfold atL covL
  rw [at_flat List.nodup_range, if_pos (List.mem_range.mpr (bot_spec L).2.1)]
  unfold covRow
  rw [List.map_map]
  exact List.map_id _
theorem cov_iff {us : List Nat} (L : Lat us) {x y : Nat} (hx : x < us.length) (hy : y < us.length) (hxy : le us x y = true) : cov us x y = true ↔ x ≠ y ∧ ∀ z, z < us.length → le us x z = true → le us z y = true → z = x ∨ z = y := by
  have bit : ∀ z, z < us.length → (us.getD x 0 &&& (dual us).getD y 0).testBit z = (le us x z && le us z y) := fun z hz => by
    rw [Nat.testBit_and]
    congr 1
    exact dual_le hy hz
  have bit2 : ∀ z, (1 <<< x ||| 1 <<< y).testBit z = decide (z = x ∨ z = y) := fun z => by
    rw [Nat.testBit_or, Nat.one_shiftLeft, Nat.one_shiftLeft, Nat.testBit_two_pow, Nat.testBit_two_pow]
    rw [← Bool.decide_or]
    exact decide_eq_decide.mpr ⟨fun h => h.elim (fun e => .inl e.symm) fun e => .inr e.symm, fun h => h.elim (fun e => .inl e.symm) fun e => .inr e.symm⟩
  unfold cov
  rw [Bool.and_eq_true, decide_eq_true_eq]
  have e0 : (!decide (x = y)) = true ↔ x ≠ y := by
    rw [Bool.not_eq_true', decide_eq_false_iff_not]
  rw [e0]
  constructor
  · rintro ⟨h0, h⟩
    refine ⟨h0, fun z hz h1 h2 => ?_⟩
    have := bit z hz
    rw [h, bit2, h1, h2] at this
    simpa using this
  · rintro ⟨h0, h⟩
    refine ⟨h0, ?_⟩
    apply Nat.eq_of_testBit_eq
    intro z
    by_cases hz : z < us.length
    · rw [bit z hz, bit2]
      by_cases q : z = x ∨ z = y
      · rw [decide_eq_true q]
        rcases q with q | q
        · rw [q, L.refl x hx, hxy]; rfl
        · rw [q, L.refl y hy, hxy]; rfl
      · rw [decide_eq_false q]
        cases a : le us x z with
        | false => rfl
        | true =>
          cases b : le us z y with
          | false => rfl
          | true => exact absurd (h z hz a b) q
    · rw [bit2, decide_eq_false (by omega)]
      have hlt : us.getD x 0 &&& (dual us).getD y 0 < 2 ^ us.length := Nat.lt_of_le_of_lt Nat.and_le_left (L.bits x hx)
      exact Nat.testBit_lt_two_pow (Nat.lt_of_lt_of_le hlt (Nat.pow_le_pow_right (by omega) (by omega)))
theorem at_mem {us : List Nat} (L : Lat us) {y : Nat} : y ∈ atL us ↔ y < us.length ∧ bot us ≠ y ∧ ∀ z, z < us.length → le us z y = true → z = bot us ∨ z = y := by
  obtain ⟨_, hb, hl⟩ := bot_spec L
  rw [atL_eq L, List.mem_filter, bl_range (L.bits _ hb), List.mem_filter, List.mem_range]
  constructor
  · rintro ⟨⟨h1, h2⟩, h3⟩
    obtain ⟨h4, h5⟩ := (cov_iff L hb h1 h2).mp h3
    exact ⟨h1, h4, fun z hz h => h5 z hz (hl z hz) h⟩
  · rintro ⟨h1, h2, h3⟩
    exact ⟨⟨h1, hl y h1⟩, (cov_iff L hb h1 (hl y h1)).mpr ⟨h2, fun z hz _ h => h3 z hz h⟩⟩
theorem at_len {us : List Nat} (L : Lat us) : (atL us).length ≤ us.length := by
  rw [atL_eq L]
  exact Nat.le_trans (List.length_filter_le _ _) (bl_len (L.bits _ (bot_spec L).2.1))
theorem at_below {us : List Nat} (L : Lat us) : ∀ k w, w < us.length → MS.dn us.length (le us) w ≤ k → w ≠ bot us → ∃ y ∈ atL us, le us y w = true
  | 0, w, hw, hk, _ => by
    have : w ∈ (List.range us.length).filter fun z => le us z w := List.mem_filter.mpr ⟨List.mem_range.mpr hw, L.refl w hw⟩
    have := List.length_pos_of_mem this
    unfold MS.dn at hk
    omega
  | k + 1, w, hw, hk, hne => by
    by_cases q : w ∈ atL us
    · exact ⟨w, q, L.refl w hw⟩
    · have : ∃ z, z < us.length ∧ le us z w = true ∧ z ≠ bot us ∧ z ≠ w := by
        apply Classical.byContradiction
        intro h
        refine q ((at_mem L).mpr ⟨hw, fun e => hne e.symm, fun z hz hzw => ?_⟩)
        by_cases a : z = bot us
        · exact .inl a
        · refine .inr ?_
          apply Classical.byContradiction
          exact fun b => h ⟨z, hz, hzw, a, b⟩
      obtain ⟨z, hz, hzw, h1, h2⟩ := this
      have hlt := MS.dn_lt (lat_ord L) hz hw hzw h2
      obtain ⟨y, hy, h⟩ := at_below L k z hz (by omega) h1
      exact ⟨y, hy, L.trans y z w ((at_mem L).mp hy).1 hz hw h hzw⟩
/-! ### joins of atoms -/
def joinL (us at' : List Nat) (l : List Nat) (p : Nat) : Nat := l.foldl (fun p i => jn us p (at'.getD i 0)) p
theorem join_le {us : List Nat} (L : Lat us) {x y w : Nat} (hx : x < us.length) (hy : y < us.length) (hw : w < us.length) : le us (jn us x y) w = true ↔ le us x w = true ∧ le us y w = true := by
  obtain ⟨_, hz, a, b, m⟩ := jn_spec L hx hy
  exact ⟨fun h => ⟨L.trans _ _ _ hx hz hw a h, L.trans _ _ _ hy hz hw b h⟩, fun h => m w hw h.1 h.2⟩
theorem joinL_spec {us at' : List Nat} (L : Lat us) : ∀ (l : List Nat) (p : Nat), p < us.length → (∀ i ∈ l, at'.getD i 0 < us.length) → joinL us at' l p < us.length ∧ ∀ w, w < us.length → (le us (joinL us at' l p) w = true ↔ le us p w = true ∧ ∀ i ∈ l, le us (at'.getD i 0) w = true)
  | [], p, hp, _ => ⟨hp, fun w _ => by simp [joinL]⟩
  | i :: l, p, hp, h => by
    have hi := h i List.mem_cons_self
    obtain ⟨_, hz, _⟩ := jn_spec L hp hi
    obtain ⟨h1, h2⟩ := joinL_spec L l (jn us p (at'.getD i 0)) hz fun j m => h j (List.mem_cons_of_mem _ m)
    refine ⟨h1, fun w hw => ?_⟩
    show le us (joinL us at' l (jn us p (at'.getD i 0))) w = true ↔ _
    rw [h2 w hw, join_le L hp hi hw]
    constructor
    · rintro ⟨⟨a, b⟩, c⟩
      exact ⟨a, fun j m => (List.mem_cons.mp m).elim (fun e => by rw [e]; exact b) (c j)⟩
    · rintro ⟨a, b⟩
      exact ⟨⟨a, b i List.mem_cons_self⟩, fun j m => b j (List.mem_cons_of_mem _ m)⟩
theorem sgn_pos (b : Nat) : ∀ k, MS.sgn b.testBit k = if (pos b k).length % 2 = 0 then 1 else -1
  | 0 => rfl
  | k + 1 => by
    unfold MS.sgn
    rw [sgn_pos b k, pos_succ]
    cases q : b.testBit k with
    | true =>
      rw [if_pos rfl, if_pos rfl, List.length_append]
      show -(if (pos b k).length % 2 = 0 then (1 : Int) else -1) = if ((pos b k).length + 1) % 2 = 0 then 1 else -1
      by_cases h : (pos b k).length % 2 = 0
      · rw [if_pos h, if_neg (by omega)]
      · rw [if_neg h, if_pos (by omega)]; rfl
    | false => rw [if_neg Bool.false_ne_true, if_neg Bool.false_ne_true, List.append_nil]
end K50
end
section
set_option Elab.async false
set_option linter.all false
set_option maxRecDepth 100000
set_option autoImplicit false
set_option exponentiation.threshold 2000
namespace K50
open PySem FL
theorem mu_row {us : List Nat} (L : Lat us) {x : Nat} (hx : x < us.length) {f : Nat → Int} (R : RowOk us x f) : MS.Mu us.length (le us) x f := MS.mu_of (lat_ord L) hx R.out R.one R.sum
theorem places_eq {l : List Nat} (nd : l.Nodup) {i j : Nat} (hi : i < l.length) (hj : j < l.length) : l.getD i 0 = l.getD j 0 ↔ i = j := by
  rw [getD_at hi, getD_at hj]
  exact List.getElem_inj nd
theorem mem_getD {l : List Nat} {i : Nat} (hi : i < l.length) : l.getD i 0 ∈ l := by
  rw [getD_at hi]
  exact List.getElem_mem _
theorem part_ord {us pts : List Nat} (L : Lat us) (nd : pts.Nodup) (hp : ∀ p ∈ pts, p < us.length) : MS.Ord (partF us pts).length (le (partF us pts)) := by
  rw [partF_len]
  refine ⟨fun x hx => ?_, fun x y z hx hy hz h1 h2 => ?_, fun x y hx hy h1 h2 => ?_⟩
  · rw [partF_le hx hx]
    exact L.refl _ (hp _ (mem_getD hx))
  · rw [partF_le hx hy] at h1
    rw [partF_le hy hz] at h2
    rw [partF_le hx hz]
    exact L.trans _ _ _ (hp _ (mem_getD hx)) (hp _ (mem_getD hy)) (hp _ (mem_getD hz)) h1 h2
  · rw [partF_le hx hy] at h1
    rw [partF_le hy hx] at h2
    exact (places_eq nd hx hy).mp (L.anti _ _ (hp _ (mem_getD hx)) (hp _ (mem_getD hy)) h1 h2)
theorem mid_nodup (n low high : Nat) : (MS.mid n low high).Nodup := List.nodup_range.filter _
theorem euler_mid {us : List Nat} (L : Lat us) (hn : us.length ≤ 60) {m : Nat → Int} (M : MS.Mu us.length (le us) (bot us) m) (hne : topF us ≠ bot us) :
    f_euler_number [.d (tn (partF us (MS.mid us.length (bot us) (topF us))))] = .ok (oz (1 + m (topF us))) [] := by
  obtain ⟨_, hb, hl⟩ := bot_spec L
  obtain ⟨ht, hh⟩ := top_spec L
  have O := lat_ord L
  generalize hmid : MS.mid us.length (bot us) (topF us) = mid
  have nd : mid.Nodup := by rw [← hmid]; exact mid_nodup _ _ _
  have hp : ∀ p ∈ mid, p < us.length := fun p h => by rw [← hmid] at h; exact (MS.mid_mem.mp h).1
  have hlen : mid.length ≤ us.length := by
    rw [← hmid]
    exact Nat.le_trans (List.length_filter_le _ _) (by simp)
  have h := euler_spec (us := partF us mid) (by rw [partF_len]; omega) (fun x hx => partF_bits (by rw [partF_len] at hx; exact hx)) (part_ord L nd hp) (E := fun i => -m (mid.getD i 0)) (fun q hq => by
    rw [partF_len] at hq ⊢
    have hq := List.mem_range.mp hq
    have e := MS.euler_E O hb hl ht hh M (mid.getD q 0) (by rw [hmid]; exact mem_getD hq)
    rw [hmid] at e
    rw [← e]
    congr 1
    rw [MS.sm_filter, MS.sm_filter, ← MS.sm_places mid]
    refine MS.sm_congr fun i hi => ?_
    have hi := List.mem_range.mp hi
    rw [partF_le hi hq]
    by_cases a : q = i
    · subst a
      simp
    · have b : ¬ mid.getD q 0 = mid.getD i 0 := fun z => a ((places_eq nd hq hi).mp z)
      rw [decide_eq_true (show q ≠ i from a), decide_eq_true (show mid.getD q 0 ≠ mid.getD i 0 from b)])
  rw [h, partF_len, MS.sm_places mid (fun p => -m p)]
  have e := MS.euler_sum O hb hl ht hh M hne
  rw [hmid] at e
  rw [e]
theorem ix_tz {n : Nat} {F : Nat → Nat → Int} {x : Nat} (hx : x < n) : oIx (tabZ n F) (dn x) = some (.tuple ((List.range n).map fun y => .int (F x y))) := by
  unfold tabZ
  rw [oIx_t, List.getElem?_map, List.getElem?_range hx]; rfl
theorem ix_rz {n : Nat} {f : Nat → Int} {y : Nat} (hy : y < n) : oIx (.tuple ((List.range n).map fun y => .int (f y))) (dn y) = some (.int (f y)) := by
  rw [oIx_t, List.getElem?_map, List.getElem?_range hy]; rfl
theorem ix_jn {us : List Nat} {x y : Nat} (hy : y < us.length) : oIx (tn ((List.range us.length).map fun y => jn us x y)) (dn y) = some (dn (jn us x y)) := by
  have h := ix_t (us := (List.range us.length).map fun y => jn us x y) (i := y) (by simpa using hy)
  rwa [getD_range hy] at h
theorem setT_ok {f : PyData → FL.Env → Option FL.Env} {m : M} {ρ ρ1 ρ2 : FL.Env} {x : PyData} (e : m ρ = .ok (.o (.d x)) ρ1) (h : f x ρ1 = some ρ2) : mSetT f m ρ = .nx ρ2 := by
  unfold mSetT
  rw [e]
  show (match f x ρ1 with | some ρ2 => RS.nx ρ2 | none => .bad) = _
  rw [h]
theorem lattice_at {o : FL.O} (hd : Dr o) {j : Nat} {ρ : FL.Env} (h : ρ[j]? = some (some o)) : ∃ us o', mCall [0] 2 f_law_lattice (mCons (mVar j) (mCons (mC (.int 10)) mNil)) ρ = .ok (.o (.d (tn us))) (ρ.set j (some o')) ∧ Lat us ∧ us.length ≤ 10 ∧ Dr o' := by
  obtain ⟨us, o', e, L, hu, hd'⟩ := lattice_spec hd
  obtain ⟨xs, rfl⟩ := hd.own
  exact ⟨us, o', callD h (own_var h) rfl e, L, hu, hd'⟩
theorem or_vt {a b : M} {ρ ρ' : FL.Env} (e : a ρ = .ok (.o (.d (.bool true))) ρ') : mOrV a b ρ = .ok (.o (.d (.bool true))) ρ' := by
  unfold mOrV
  simp only [R.bind, e]
  rfl
/-- the state behind the tables -/
def W (sc o : FL.O) (us : List Nat) (F : Nat → Nat → Int) (x9 : Option FL.O) (t : Int) (b14 p15 k16 : Option FL.O) : FL.Env :=
  [some sc, some o, some (.d (tn us)), some (on us.length), some (on (bot us)), some (on (topF us)), some (.d (tabZ us.length F)), some (oz (F (bot us) (topF us))), some (.d (tn (MS.mid us.length (bot us) (topF us)))), x9, some (.d (tabP us.length (mt us))), some (.d (tabP us.length (jn us))), some (.d (tn (atL us))), some (oz t), b14, p15, k16, none, none]
def INNER : MS := (mSeq (mSet 15 (mVar 4))
  (mSeq (mFor (mItems (mCall [] 1 f_law_members (mCons (mVar 14) mNil))) (.n 16)
  (mSet 15 (mOp oIx (mOp oIx (mVar 11) (mVar 15)) (mOp oIx (mVar 12) (mVar 16)))))
  (mIfS (mTst asB (mOp oEq (mVar 15) (mVar 5)))
  (mSet 13 (mOp oAdd (mVar 13) (mIf (mTst asB (mOp oEq (mOp oMod (mCall [] 1 f_law_count (mCons (mVar 14) mNil)) (mC (.int 2))) (mC (.int 0)))) (mC (.int 1)) (mOp oSub (mC (.int 0)) (mC (.int 1))))))
  mSkip)))
def JB (us : List Nat) (b : Nat) : Nat := joinL us (atL us) (bl b) (bot us)
theorem at_lt {us : List Nat} (L : Lat us) {i : Nat} (hi : i < (atL us).length) : (atL us).getD i 0 < us.length := ((at_mem L).mp (mem_getD hi)).1
theorem inner_ok {sc o : FL.O} {us : List Nat} {F : Nat → Nat → Int} {t : Int} {p15 k16 : Option FL.O} (L : Lat us) (hn : us.length ≤ 10) {b : Nat} (hb : b < 2 ^ (atL us).length) :
    ∃ p15' k16', INNER (W sc o us F none t (some (on b)) p15 k16) = .nx (W sc o us F none (t + if JB us b = topF us then MS.sgn b.testBit (atL us).length else 0) (some (on b)) p15' k16') := by
  have hal := at_len L
  have hb1000 : b < 2 ^ 1000 := Nat.lt_of_lt_of_le hb (Nat.pow_le_pow_right (by omega) (by omega))
  have hbm : ∀ i ∈ bl b, i < (atL us).length := fun i hi => by
    rw [bl_eq hb] at hi
    exact (mem_pos.mp hi).1
  obtain ⟨_, hbo, _⟩ := bot_spec L
  obtain ⟨ρ', e, k16', rfl⟩ := forG (tg := .n 16) (b := mSet 15 (mOp oIx (mOp oIx (mVar 11) (mVar 15)) (mOp oIx (mVar 12) (mVar 16)))) (full := bl b) (ρ := W sc o us F none t (some (on b)) (some (on (bot us))) k16) dn
    (fun done ρ => ∃ k16, ρ = W sc o us F none t (some (on b)) (some (on (joinL us (atL us) done (bot us)))) k16) (by
      rintro done i rest ρ hc ⟨k16, rfl⟩
      have hi := hbm i (by rw [hc]; simp)
      have hj := (joinL_spec L (at' := atL us) done (bot us) hbo (fun j m => at_lt L (hbm j (by rw [hc]; exact List.mem_append_left _ m)))).1
      refine ⟨_, _, rfl, .inl (set_ok (op2 (op2 (var_d rfl) (var_d rfl) (ix_tabT hj)) (op2 (var_d rfl) (var_d rfl) (ix_t hi)) (ix_jn (at_lt L hi)))), some (on i), ?_⟩
      unfold joinL
      rw [List.foldl_append]
      rfl) ⟨k16, rfl⟩
  have ef : mFor (mItems (mCall [] 1 f_law_members (mCons (mVar 14) mNil))) (.n 16) (mSet 15 (mOp oIx (mOp oIx (mVar 11) (mVar 15)) (mOp oIx (mVar 12) (mVar 16)))) (W sc o us F none t (some (on b)) (some (on (bot us))) k16) = .nx (W sc o us F none t (some (on b)) (some (on (JB us b))) k16') := for_ok (items_t (call1 (var_d rfl) (law_members_spec b hb1000))) e
  have t1 := tst (op2 (m := mVar 15) (m2 := mVar 5) (ρ := W sc o us F none t (some (on b)) (some (on (JB us b))) k16') (var_d rfl) (var_d rfl) (oEq_n (JB us b) (topF us)))
  by_cases q : JB us b = topF us
  · rw [decide_eq_true q] at t1
    rw [if_pos q, sgn_pos, ← bl_eq hb]
    have hc : mOp oMod (mCall [] 1 f_law_count (mCons (mVar 14) mNil)) (mC (.int 2)) (W sc o us F none t (some (on b)) (some (on (JB us b))) k16') = .ok (.o (on ((bl b).length % 2))) (W sc o us F none t (some (on b)) (some (on (JB us b))) k16') := op2 (call1 (var_d rfl) (law_count_spec b hb1000)) rfl (oMod_n _ 2 (by omega))
    have t2 := tst (op2 (m2 := mC (.int 0)) hc rfl (oEq_n _ 0))
    have e2 : mIf (mTst asB (mOp oEq (mOp oMod (mCall [] 1 f_law_count (mCons (mVar 14) mNil)) (mC (.int 2))) (mC (.int 0)))) (mC (.int 1)) (mOp oSub (mC (.int 0)) (mC (.int 1))) (W sc o us F none t (some (on b)) (some (on (JB us b))) k16') = .ok (.o (oz (if (bl b).length % 2 = 0 then 1 else -1))) (W sc o us F none t (some (on b)) (some (on (JB us b))) k16') := by
      unfold mIf
      rw [t2]
      by_cases w : (bl b).length % 2 = 0
      · rw [decide_eq_true w, if_pos w]; rfl
      · rw [decide_eq_false w, if_neg w]; rfl
    exact ⟨_, _, seq_nx (set_ok (var_d rfl)) (seq_nx ef (if_t t1 (set_ok (op2 (var_d rfl) e2 (oAdd_z _ _)))))⟩
  · rw [decide_eq_false q] at t1
    rw [if_neg q, Int.add_zero]
    exact ⟨_, _, seq_nx (set_ok (var_d rfl)) (seq_nx ef (if_f t1 rfl))⟩
theorem JB_spec {us : List Nat} (L : Lat us) {b : Nat} (hb : b < 2 ^ (atL us).length) : JB us b < us.length ∧ ∀ w, w < us.length → (le us (JB us b) w = true ↔ ∀ i, i < (atL us).length → b.testBit i = true → le us ((atL us).getD i 0) w = true) := by
  obtain ⟨_, hbo, hl⟩ := bot_spec L
  obtain ⟨h1, h2⟩ := joinL_spec L (at' := atL us) (bl b) (bot us) hbo (fun i hi => at_lt L (by rw [bl_eq hb] at hi; exact (mem_pos.mp hi).1))
  refine ⟨h1, fun w hw => ?_⟩
  unfold JB
  rw [h2 w hw]
  exact ⟨fun h i hi hbi => h.2 i (mem_bl.mpr hbi), fun h => ⟨hl w hw, fun i hi => by
    rw [bl_eq hb] at hi
    obtain ⟨a, c⟩ := mem_pos.mp hi
    exact h i a c⟩⟩
theorem cross_eq {us : List Nat} (L : Lat us) {m : Nat → Int} (M : MS.Mu us.length (le us) (bot us) m) {z : Nat} (hz : z < us.length) : m z = MS.sm (List.range (2 ^ (atL us).length)) fun b => if JB us b = z then MS.sgn b.testBit (atL us).length else 0 := by
  obtain ⟨_, hbo, hl⟩ := bot_spec L
  refine MS.crosscut (lat_ord L) hbo hl M (at' := fun i => (atL us).getD i 0) (JB us) (fun b hb => JB_spec L hb) (fun w hw => ⟨?_, fun hne => ?_⟩) hz
  · rintro ⟨i, hi, h⟩ e
    obtain ⟨h1, h2, _⟩ := (at_mem L).mp (mem_getD hi)
    rw [e] at h
    exact h2 (L.anti _ _ hbo h1 (hl _ h1) h)
  · obtain ⟨y, hy, h⟩ := at_below L _ w hw (Nat.le_refl _) hne
    obtain ⟨i, hi, e⟩ := List.mem_iff_getElem.mp hy
    exact ⟨i, hi, by show le us ((atL us).getD i 0) w = true; rw [getD_at hi, e]; exact h⟩
/-- the join of all atoms -/
def allJ (us : List Nat) : Nat := (atL us).foldl (fun p a => jn us p a) (bot us)
theorem allJ_spec {us : List Nat} (L : Lat us) : ∀ (l : List Nat) (p : Nat), p < us.length → (∀ a ∈ l, a < us.length) → l.foldl (fun p a => jn us p a) p < us.length ∧ (le us p (l.foldl (fun p a => jn us p a) p) = true) ∧ ∀ a ∈ l, le us a (l.foldl (fun p a => jn us p a) p) = true
  | [], p, hp, _ => ⟨hp, L.refl p hp, fun a h => (nomatch h)⟩
  | x :: l, p, hp, h => by
    have hx := h x List.mem_cons_self
    obtain ⟨_, hz, a, b, _⟩ := jn_spec L hp hx
    obtain ⟨h1, h2, h3⟩ := allJ_spec L l (jn us p x) hz fun y m => h y (List.mem_cons_of_mem _ m)
    refine ⟨h1, L.trans _ _ _ hp hz h1 a h2, fun y m => ?_⟩
    rcases List.mem_cons.mp m with e | m
    · rw [e]; exact L.trans _ _ _ hx hz h1 b h2
    · exact h3 y m
theorem no_cross {us : List Nat} (L : Lat us) {m : Nat → Int} (M : MS.Mu us.length (le us) (bot us) m) (h : allJ us ≠ topF us) : m (topF us) = 0 := by
  obtain ⟨_, hbo, hl⟩ := bot_spec L
  obtain ⟨ht, hh⟩ := top_spec L
  obtain ⟨h1, h2, h3⟩ := allJ_spec L (atL us) (bot us) hbo fun a m => ((at_mem L).mp m).1
  rw [cross_eq L M ht]
  refine MS.sm_zero fun b hb => if_neg fun e => h ?_
  obtain ⟨_, k⟩ := JB_spec L (List.mem_range.mp hb)
  have := (k (allJ us) h1).mpr fun i hi _ => h3 _ (mem_getD hi)
  rw [e] at this
  exact L.anti _ _ h1 ht (hh _ h1) this
end K50
end
section
set_option Elab.async false
set_option linter.all false
set_option maxRecDepth 100000
set_option autoImplicit false
set_option exponentiation.threshold 2000
namespace K50
open PySem FL
theorem one_table {F : Nat → Nat → Int} (h : F 0 0 = 1) : oEq (tabZ 1 F) (.tuple [.tuple [.int 1]]) = some (.bool true) := by
  have e : tabZ 1 F = .tuple [.tuple [.int 1]] := by
    show PyData.tuple [.tuple [.int (F 0 0)]] = _
    rw [h]
  rw [e]
  kernel_rfl
/-- the state behind the lattice -/
def W0 (sc o : FL.O) (us : List Nat) : FL.Env := [some sc, some o, some (.d (tn us)), some (on us.length), none, none, none, none, none, none, none, none, none, none, none, none, none, none, none]
theorem mid_ok {sc o : FL.O} {us : List Nat} {F : Nat → Nat → Int} (hn : us.length ≤ 10) {low high : Nat} (r6 r7 : Option FL.O) :
    mCallB fTuple (mCons (mLc (mWalk k1 (mCons (mVar 3) mNil)) (.n 9) [9] (mAndT (mTst asB (mOp oNe (mVar 9) (mVar 4))) (mTst asB (mOp oNe (mVar 9) (mVar 5)))) (mVar 9)) mNil) [some sc, some o, some (.d (tn us)), some (on us.length), some (on low), some (on high), r6, r7, none, none, none, none, none, none, none, none, none, none, none] = .ok (.o (.d (tn (MS.mid us.length low high)))) [some sc, some o, some (.d (tn us)), some (on us.length), some (on low), some (on high), r6, r7, none, none, none, none, none, none, none, none, none, none, none] := by
  have hm := lcG (mi := mWalk k1 (mCons (mVar 3) mNil)) (tg := .n 9) (vs := [9]) (c := mAndT (mTst asB (mOp oNe (mVar 9) (mVar 4))) (mTst asB (mOp oNe (mVar 9) (mVar 5)))) (e := mVar 9) (ρ0 := [some sc, some o, some (.d (tn us)), some (on us.length), some (on low), some (on high), r6, r7, none, none, none, none, none, none, none, none, none, none, none]) (l := List.range us.length) dn (fun x => [some sc, some o, some (.d (tn us)), some (on us.length), some (on low), some (on high), r6, r7, none, some (on x), none, none, none, none, none, none, none, none, none]) (fun x => decide (x ≠ low) && decide (x ≠ high)) (fun x => on x)
    (walk1 (var_d rfl) (by omega)) rfl rfl (fun x _ => ⟨rfl, by
      let E : FL.Env := [some sc, some o, some (.d (tn us)), some (on us.length), some (on low), some (on high), r6, r7, none, some (on x), none, none, none, none, none, none, none, none, none]
      have t1 : mTst asB (mOp oNe (mVar 9) (mVar 4)) E = .ok (!decide (x = low)) E := tst (op2 (var_d rfl) (var_d rfl) (oNe_n x low))
      have t2 : mTst asB (mOp oNe (mVar 9) (mVar 5)) E = .ok (!decide (x = high)) E := tst (op2 (var_d rfl) (var_d rfl) (oNe_n x high))
      show mAndT _ _ E = .ok _ E
      by_cases q : x = low
      · rw [decide_eq_true q] at t1
        rw [decide_eq_false (show ¬ x ≠ low from fun z => z q)]
        exact and_ff t1
      · rw [decide_eq_false q] at t1
        rw [decide_eq_true (show x ≠ low from q), Bool.true_and, decide_not]
        exact and_tt t1 t2, fun _ => var_d rfl, rfl, rfl⟩) (by rw [List.length_range]; omega)
  rw [on_lst] at hm
  exact tuple_on hm
def WEI : Mb := (mAndT (mTst asB (mOp oNe (mVar 9) (mVar 4))) (mTst asB (mOp oNe (mCallB fSum (mCons (mLc (mWalk k1 (mCons (mVar 3) mNil)) (.n 17) [17] (mTst asB (mOp oEq (mOp oIx (mOp oIx (mVar 11) (mVar 17)) (mVar 9)) (mVar 5))) (mOp oIx (mOp oIx (mVar 6) (mVar 4)) (mVar 17))) mNil)) (mC (.int 0)))))
theorem wei_ok {sc o : FL.O} {us : List Nat} {F : Nat → Nat → Int} {t : Int} {b14 p15 k16 : Option FL.O} (L : Lat us) (hn : us.length ≤ 10) (M : MS.Mu us.length (le us) (bot us) (F (bot us))) {x : Nat} (hx : x < us.length) :
    WEI (W sc o us F (some (on x)) t b14 p15 k16) = .ok false (W sc o us F (some (on x)) t b14 p15 k16) := by
  obtain ⟨_, hbo, hl⟩ := bot_spec L
  obtain ⟨ht, hh⟩ := top_spec L
  have t1 := tst (op2 (m := mVar 9) (m2 := mVar 4) (ρ := W sc o us F (some (on x)) t b14 p15 k16) (var_d rfl) (var_d rfl) (oNe_n x (bot us)))
  by_cases q : x = bot us
  · rw [decide_eq_true q] at t1
    exact and_ff t1
  · rw [decide_eq_false q] at t1
    have hm := lcG (mi := mWalk k1 (mCons (mVar 3) mNil)) (tg := .n 17) (vs := [17]) (c := mTst asB (mOp oEq (mOp oIx (mOp oIx (mVar 11) (mVar 17)) (mVar 9)) (mVar 5))) (e := mOp oIx (mOp oIx (mVar 6) (mVar 4)) (mVar 17)) (ρ0 := W sc o us F (some (on x)) t b14 p15 k16) (l := List.range us.length) dn (fun y => (W sc o us F (some (on x)) t b14 p15 k16).set 17 (some (on y))) (fun y => decide (jn us y x = topF us)) (fun y => oz (F (bot us) y))
      (walk1 (var_d rfl) (by omega)) rfl rfl (fun y hy => by
        have hy := List.mem_range.mp hy
        exact ⟨rfl, tst (op2 (op2 (op2 (var_d rfl) (var_d rfl) (ix_tabT hy)) (var_d rfl) (ix_jn hx)) (var_d rfl) (oEq_n _ _)), fun _ => op2 (op2 (var_d rfl) (var_d rfl) (ix_tz hbo)) (var_d rfl) (ix_rz hy), rfl, rfl⟩) (by rw [List.length_range]; omega)
    have hs := sum_z hm
    have hw := MS.weisner (lat_ord L) hbo hl M hx q (fun y => jn us y x) (fun y hy => ⟨(jn_spec L hy hx).2.1, fun w hw => join_le L hy hx hw⟩) ht
    unfold MS.sm at hw
    rw [hw] at hs
    exact and_tt t1 (tst (op2 hs rfl (oNe_z 0 0)))
theorem law_spec (ns : List Int) (hl : ns.length ≤ 63) : ∃ outs, f_law [.d (.list (ofInts ns))] = .ok (.d (.bool true)) outs := by
  generalize hsc : (FL.O.d (.list (ofInts ns))) = sc
  obtain ⟨o0, e0, hd0⟩ := begin_spec ns hl
  rw [hsc] at e0
  have hv : ∀ ρ : FL.Env, ρ[0]? = some (some sc) → mVar 0 ρ = .ok (.o sc) ρ := fun ρ h => by rw [← hsc] at h ⊢; exact var_d h
  obtain ⟨us, o1, e1, L, hn, hd1⟩ := lattice_at hd0 (j := 1) (ρ := [some sc, some o0, none, none, none, none, none, none, none, none, none, none, none, none, none, none, none, none, none]) rfl
  obtain ⟨F, hF, eM⟩ := moebius_spec L (by omega)
  have hpos := L.pos
  have t2 := tst (op2 (m := mVar 3) (m2 := mC (.int 2)) (ρ := W0 sc o1 us) (var_d rfl) rfl (oLt_n us.length 2))
  by_cases h2 : us.length < 2
  · rw [decide_eq_true h2] at t2
    have h1 : us.length = 1 := by omega
    have e := one_table (hF 0 hpos).one
    rw [h1] at eM
    refine ⟨[], fn_rt (seq_nx (set_ok (call1 (hv _ rfl) e0)) (seq_nx (set_ok e1) (seq_nx (set_ok (len_tn (var_d rfl))) (seq_rt (if_t t2 (ret_ok (op2 (call1 (var_d rfl) eM) (tup_ok (xs := [.o (.d (.tuple [dn 1]))]) (ys := [.tuple [dn 1]]) (ms_cons (tup_ok (xs := [.o (on 1)]) (ys := [dn 1]) (ms_cons rfl ms_nil) rfl rfl) ms_nil) rfl rfl) e))))))) rfl⟩
  · rw [decide_eq_false h2] at t2
    obtain ⟨_, hbo, hlo⟩ := bot_spec L
    obtain ⟨ht, hh⟩ := top_spec L
    have M := mu_row L hbo (hF _ hbo)
    have hne : topF us ≠ bot us := fun e => by
      have a : ∀ w, w < us.length → w = bot us := fun w hw => L.anti _ _ hw hbo (by rw [← e]; exact hh w hw) (hlo w hw)
      have := a 0 (by omega)
      have := a 1 (by omega)
      omega
    have hml : (MS.mid us.length (bot us) (topF us)).length ≤ us.length := Nat.le_trans (List.length_filter_le _ _) (by simp)
    have hal := at_len L
    have hp2 : 2 ^ (atL us).length ≤ 2 ^ 10 := Nat.pow_le_pow_right (by omega) (by omega)
    have loop := forG (tg := .n 14) (b := INNER) (full := List.range (2 ^ (atL us).length)) (ρ := W sc o1 us F none 0 none none none) dn
      (fun done ρ => ∃ b14 p15 k16, ρ = W sc o1 us F none (MS.sm done fun b => if JB us b = topF us then MS.sgn b.testBit (atL us).length else 0) b14 p15 k16) (by
        rintro done b rest ρ hc ⟨b14, p15, k16, rfl⟩
        have hb : b < 2 ^ (atL us).length := List.mem_range.mp (by rw [hc]; simp)
        obtain ⟨p, k, e⟩ := inner_ok (sc := sc) (o := o1) (F := F) (t := MS.sm done fun b => if JB us b = topF us then MS.sgn b.testBit (atL us).length else 0) (p15 := p15) (k16 := k16) L hn hb
        refine ⟨_, _, rfl, .inl e, some (on b), p, k, ?_⟩
        rw [MS.sm_append, MS.sm_cons, MS.sm_nil, Int.add_zero]) ⟨none, none, none, rfl⟩
    obtain ⟨ρ9, e9, b14, p15, k16, rfl⟩ := loop
    rw [← cross_eq L M ht] at e9
    obtain ⟨x, o2, e10, hx, hd2⟩ := take_at hd1 (j := 1) (m := mVar 3) (many := us.length) (ρ := W sc o1 us F none (F (bot us) (topF us)) b14 p15 k16) rfl (var_d rfl) hpos (by omega)
    have e11 := wei_ok (sc := sc) (o := o2) (t := F (bot us) (topF us)) (b14 := b14) (p15 := p15) (k16 := k16) L hn M hx
    obtain ⟨ρ12, e12, a18, rfl⟩ := forG (tg := .n 18) (b := mSet 15 (mOp oIx (mOp oIx (mVar 11) (mVar 15)) (mVar 18))) (full := atL us) (ρ := W sc o2 us F (some (on x)) (F (bot us) (topF us)) b14 (some (on (bot us))) k16) dn
      (fun done ρ => ∃ a18, ρ = (W sc o2 us F (some (on x)) (F (bot us) (topF us)) b14 (some (on (done.foldl (fun p a => jn us p a) (bot us)))) k16).set 18 a18) (by
        rintro done a rest ρ hc ⟨a18, rfl⟩
        have hlt : ∀ a ∈ atL us, a < us.length := fun a m => ((at_mem L).mp m).1
        have ha := hlt a (by rw [hc]; simp)
        have hj := (allJ_spec L done (bot us) hbo (fun y m => hlt y (by rw [hc]; exact List.mem_append_left _ m))).1
        refine ⟨_, _, rfl, .inl (set_ok (op2 (op2 (var_d rfl) (var_d rfl) (ix_tabT hj)) (var_d rfl) (ix_jn ha))), some (on a), ?_⟩
        rw [List.foldl_append]
        rfl) ⟨none, rfl⟩
    have fin : ∃ ρ', mRet (mOrV (mOp oEq (mVar 15) (mVar 5)) (mOp oEq (mVar 7) (mC (.int 0)))) ((W sc o2 us F (some (on x)) (F (bot us) (topF us)) b14 (some (on (allJ us))) k16).set 18 a18) = .rt (.d (.bool true)) ρ' := by
      have t := op2 (m := mVar 15) (m2 := mVar 5) (ρ := (W sc o2 us F (some (on x)) (F (bot us) (topF us)) b14 (some (on (allJ us))) k16).set 18 a18) (var_d rfl) (var_d rfl) (oEq_n (allJ us) (topF us))
      by_cases q : allJ us = topF us
      · rw [decide_eq_true q] at t
        exact ⟨_, ret_ok (or_vt t)⟩
      · rw [decide_eq_false q] at t
        have z := oEq_z (F (bot us) (topF us)) 0
        rw [decide_eq_true (no_cross L M q)] at z
        exact ⟨_, ret_ok (or_vf t (op2 (var_d rfl) rfl z))⟩
    obtain ⟨ρ13, e13⟩ := fin
    have c1 : oNe (.int (F (bot us) (topF us))) (.int (1 + F (bot us) (topF us) - 1)) = some (.bool false) := by
      rw [oNe_z, decide_eq_true (by omega)]; rfl
    have c2 : oNe (.int (F (bot us) (topF us))) (.int (F (bot us) (topF us))) = some (.bool false) := by
      rw [oNe_z, decide_eq_true rfl]; rfl
    exact ⟨[], fn_rt (seq_nx (set_ok (call1 (hv _ rfl) e0)) (seq_nx (set_ok e1) (seq_nx (set_ok (len_tn (var_d rfl))) (seq_nx (if_f t2 rfl)
      (seq_nx (set_ok (call1 (var_d rfl) (bottom_spec L (by omega)))) (seq_nx (set_ok (call1 (var_d rfl) (topf_spec L (by omega)))) (seq_nx (set_ok (call1 (var_d rfl) eM))
      (seq_nx (set_ok (op2 (op2 (var_d rfl) (var_d rfl) (ix_tz hbo)) (var_d rfl) (ix_rz ht))) (seq_nx (set_ok (mid_ok (F := F) hn _ _))
      (seq_nx (if_f (tst (op2 (var_d rfl) (op2 (call1 (call2 (var_d rfl) (var_d rfl) (part_of_spec (by omega) fun p hp => (MS.mid_mem.mp hp).1)) (euler_mid L (by omega) M hne)) rfl (oSub_z _ 1)) c1)) rfl)
      (seq_nx (setT_ok (call1 (var_d rfl) (tables_spec L (by omega))) rfl) (seq_nx (set_ok (call1 (var_d rfl) (atoms_spec L (by omega)))) (seq_nx (set_ok rfl)
      (seq_nx (for_ok (walk1 (call1 (len_tn (var_d rfl)) (law_bit_spec _ (by omega))) (by omega)) e9) (seq_nx (if_f (tst (op2 (var_d rfl) (var_d rfl) c2)) rfl)
      (seq_nx (set_ok e10) (seq_nx (if_f e11 rfl) (seq_nx (set_ok (var_d rfl)) (seq_nx (for_ok (items_t (var_d rfl)) e12) e13))))))))))))))))))) rfl⟩
theorem law_true : AnswersTrue f_law := law_spec
end K50
end
section
namespace K50
end K50
end
set_option Elab.async false
set_option linter.all false
set_option maxRecDepth 100000
set_option maxHeartbeats 8000000
namespace K50
open PySem PySem.Spec PyProof.Rows L2 FL
/-! what the top has written -/
theorem all_mk {l : PySem.W.OpenLaw} {w : World} {K : PySem.W.Frag} {h : Heap} {mg : Str → Option Value} {fa : Addr} (X : K.In h) (G : h.Ns mainGlobals mg) (hfa : mg "law" = some (.ref fa))
    (dbits_of : Dfn K "bits_of" "bits_of" sbits_of)
    (dhas : Dfn K "has" "has" shas)
    (dmembers : Dfn K "members" "members" smembers)
    (dcount : Dfn K "count" "count" scount)
    (dfull : Dfn K "full" "full" sfull)
    (dinside : Dfn K "inside" "inside" sinside)
    (dbelow : Dfn K "below" "below" sbelow)
    (dcovers : Dfn K "covers" "covers" scovers)
    (dpart_of : Dfn K "part_of" "part_of" spart_of)
    (dbetween : Dfn K "between" "between" sbetween)
    (dmoebius_table : Dfn K "moebius_table" "moebius_table" smoebius_table)
    (deuler_number : Dfn K "euler_number" "euler_number" seuler_number)
    (dleast_of : Dfn K "least_of" "least_of" sleast_of)
    (dlattice_paper : Dfn K "lattice_paper" "lattice_paper" slattice_paper)
    (dtables_of : Dfn K "tables_of" "tables_of" stables_of)
    (dbottom : Dfn K "bottom" "bottom" sbottom)
    (dtop : Dfn K "top" "top" stop)
    (datoms : Dfn K "atoms" "atoms" satoms)
    (d_law_begin : Dfn K "_law_begin" "_law_begin" s_law_begin)
    (d_law_take : Dfn K "_law_take" "_law_take" s_law_take)
    (d_law_bit : Dfn K "_law_bit" "_law_bit" s_law_bit)
    (d_law_bits : Dfn K "_law_bits" "_law_bits" s_law_bits)
    (d_law_close : Dfn K "_law_close" "_law_close" s_law_close)
    (d_law_inside : Dfn K "_law_inside" "_law_inside" s_law_inside)
    (d_law_by_sets : Dfn K "_law_by_sets" "_law_by_sets" s_law_by_sets)
    (d_law_has : Dfn K "_law_has" "_law_has" s_law_has)
    (d_law_downs : Dfn K "_law_downs" "_law_downs" s_law_downs)
    (d_law_members : Dfn K "_law_members" "_law_members" s_law_members)
    (d_law_down_sets : Dfn K "_law_down_sets" "_law_down_sets" s_law_down_sets)
    (d_law_pick : Dfn K "_law_pick" "_law_pick" s_law_pick)
    (d_law_named : Dfn K "_law_named" "_law_named" s_law_named)
    (d_law_shuffled : Dfn K "_law_shuffled" "_law_shuffled" s_law_shuffled)
    (d_law_order : Dfn K "_law_order" "_law_order" s_law_order)
    (d_law_cuts : Dfn K "_law_cuts" "_law_cuts" s_law_cuts)
    (d_law_lattice : Dfn K "_law_lattice" "_law_lattice" s_law_lattice)
    (d_law_count : Dfn K "_law_count" "_law_count" s_law_count)
    (dlaw : Dfn K "law" "law" slaw)
    (z_abs : PySem.W.nsIn K mainGlobals "abs" = some none)
    (z_all : PySem.W.nsIn K mainGlobals "all" = some none)
    (z_any : PySem.W.nsIn K mainGlobals "any" = some none)
    (z_enumerate : PySem.W.nsIn K mainGlobals "enumerate" = some none)
    (z_int : PySem.W.nsIn K mainGlobals "int" = some none)
    (z_len : PySem.W.nsIn K mainGlobals "len" = some none)
    (z_list : PySem.W.nsIn K mainGlobals "list" = some none)
    (z_range : PySem.W.nsIn K mainGlobals "range" = some none)
    (z_set : PySem.W.nsIn K mainGlobals "set" = some none)
    (z_sorted : PySem.W.nsIn K mainGlobals "sorted" = some none)
    (z_sum : PySem.W.nsIn K mainGlobals "sum" = some none)
    (z_tuple : PySem.W.nsIn K mainGlobals "tuple" = some none)
    : ∃ fd : FuncData, (∀ (s : Shared) (v : Value), BindsTo s fd ⟨[v], []⟩ [("script", v)]) ∧ ∀ base : Heap, K.In base → base.Ns mainGlobals mg → FnOk l.prog w K mg base CX0 6 fa fd ["script"] (spF ⟨K, fun _ => 0⟩ [] 1 f_law) := by
  have T : Txt mg := ⟨PySem.W.mg_none_of X G z_abs, PySem.W.mg_none_of X G z_all, PySem.W.mg_none_of X G z_any, PySem.W.mg_none_of X G z_enumerate, PySem.W.mg_none_of X G z_int, PySem.W.mg_none_of X G z_len, PySem.W.mg_none_of X G z_list, PySem.W.mg_none_of X G z_range, PySem.W.mg_none_of X G z_set, PySem.W.mg_none_of X G z_sorted, PySem.W.mg_none_of X G z_sum, PySem.W.mg_none_of X G z_tuple⟩
  obtain ⟨fl, al, oc, kV, dc, pm, cd, ct, od, an, sl, ll, lc, lk⟩ := dlaw
  have e := hfa.symm.trans (PySem.W.mg_of X G al)
  cases e
  refine ⟨PySem.W.fnOf "law" "law" (defArgs slaw) (defBody slaw) (defScope slaw) .none kV dc pm an cd ct, fun s v => .of_eq rfl, fun base _ _ => ?_⟩
  have Cbits_of : Cal l.prog w K mg base ⟨K, fun _ => 0⟩ 1 "bits_of" ["numbers"] [] 1 f_bits_of := Cal.of X G dbits_of (fun _ _ _ _ _ _ us hl => match us, hl with | [_], _ => rfl) fun f fd F => okbits_of F T 
  have Chas : Cal l.prog w K mg base ⟨K, fun _ => 0⟩ 1 "has" ["bits", "number"] [] 2 f_has := Cal.of X G dhas (fun _ _ _ _ _ _ us hl => match us, hl with | [_, _], _ => rfl) fun f fd F => okhas F T 
  have Cmembers : Cal l.prog w K mg base ⟨K, fun _ => 0⟩ 1 "members" ["bits"] [] 1 f_members := Cal.of X G dmembers (fun _ _ _ _ _ _ us hl => match us, hl with | [_], _ => rfl) fun f fd F => okmembers F T 
  have Ccount : Cal l.prog w K mg base ⟨K, fun _ => 0⟩ 1 "count" ["bits"] [] 1 f_count := Cal.of X G dcount (fun _ _ _ _ _ _ us hl => match us, hl with | [_], _ => rfl) fun f fd F => okcount F T 
  have Cfull : Cal l.prog w K mg base ⟨K, fun _ => 0⟩ 1 "full" ["many"] [] 1 f_full := Cal.of X G dfull (fun _ _ _ _ _ _ us hl => match us, hl with | [_], _ => rfl) fun f fd F => okfull F T 
  have Cinside : Cal l.prog w K mg base ⟨K, fun _ => 0⟩ 1 "inside" ["one", "other"] [] 2 f_inside := Cal.of X G dinside (fun _ _ _ _ _ _ us hl => match us, hl with | [_, _], _ => rfl) fun f fd F => okinside F T 
  have C_law_begin : Cal l.prog w K mg base ⟨K, fun _ => 0⟩ 1 "_law_begin" ["script"] [] 1 f_law_begin := Cal.of X G d_law_begin (fun _ _ _ _ _ _ us hl => match us, hl with | [_], _ => rfl) fun f fd F => ok_law_begin F T 
  have C_law_take : Cal l.prog w K mg base ⟨K, fun _ => 0⟩ 1 "_law_take" ["d", "many"] [0] 2 f_law_take := Cal.of X G d_law_take (fun _ _ _ _ _ _ us hl => match us, hl with | [_, _], _ => rfl) fun f fd F => ok_law_take F T 
  have C_law_bit : Cal l.prog w K mg base ⟨K, fun _ => 0⟩ 1 "_law_bit" ["x"] [] 1 f_law_bit := Cal.of X G d_law_bit (fun _ _ _ _ _ _ us hl => match us, hl with | [_], _ => rfl) fun f fd F => ok_law_bit F T 
  have C_law_inside : Cal l.prog w K mg base ⟨K, fun _ => 0⟩ 1 "_law_inside" ["a", "b"] [] 2 f_law_inside := Cal.of X G d_law_inside (fun _ _ _ _ _ _ us hl => match us, hl with | [_, _], _ => rfl) fun f fd F => ok_law_inside F T 
  have C_law_members : Cal l.prog w K mg base ⟨K, fun _ => 0⟩ 1 "_law_members" ["bits"] [] 1 f_law_members := Cal.of X G d_law_members (fun _ _ _ _ _ _ us hl => match us, hl with | [_], _ => rfl) fun f fd F => ok_law_members F T 
  have Cbelow : Cal l.prog w K mg base ⟨K, fun _ => 0⟩ 2 "below" ["order"] [] 1 f_below := Cal.of X G dbelow (fun _ _ _ _ _ _ us hl => match us, hl with | [_], _ => rfl) fun f fd F => okbelow F T Cbits_of Chas
  have Cpart_of : Cal l.prog w K mg base ⟨K, fun _ => 0⟩ 2 "part_of" ["order", "points"] [] 2 f_part_of := Cal.of X G dpart_of (fun _ _ _ _ _ _ us hl => match us, hl with | [_, _], _ => rfl) fun f fd F => okpart_of F T Cbits_of Chas
  have Ceuler_number : Cal l.prog w K mg base ⟨K, fun _ => 0⟩ 2 "euler_number" ["order"] [] 1 f_euler_number := Cal.of X G deuler_number (fun _ _ _ _ _ _ us hl => match us, hl with | [_], _ => rfl) fun f fd F => okeuler_number F T Cmembers
  have Cleast_of : Cal l.prog w K mg base ⟨K, fun _ => 0⟩ 2 "least_of" ["order", "bits"] [] 2 f_least_of := Cal.of X G dleast_of (fun _ _ _ _ _ _ us hl => match us, hl with | [_, _], _ => rfl) fun f fd F => okleast_of F T Cmembers Cinside
  have C_law_bits : Cal l.prog w K mg base ⟨K, fun _ => 0⟩ 2 "_law_bits" ["rows"] [] 1 f_law_bits := Cal.of X G d_law_bits (fun _ _ _ _ _ _ us hl => match us, hl with | [_], _ => rfl) fun f fd F => ok_law_bits F T C_law_bit
  have C_law_has : Cal l.prog w K mg base ⟨K, fun _ => 0⟩ 2 "_law_has" ["bits", "x"] [] 2 f_law_has := Cal.of X G d_law_has (fun _ _ _ _ _ _ us hl => match us, hl with | [_, _], _ => rfl) fun f fd F => ok_law_has F T C_law_bit
  have C_law_pick : Cal l.prog w K mg base ⟨K, fun _ => 0⟩ 2 "_law_pick" ["d", "menu"] [0] 2 f_law_pick := Cal.of X G d_law_pick (fun _ _ _ _ _ _ us hl => match us, hl with | [_, _], _ => rfl) fun f fd F => ok_law_pick F T C_law_take
  have C_law_shuffled : Cal l.prog w K mg base ⟨K, fun _ => 0⟩ 2 "_law_shuffled" ["d", "n"] [0] 2 f_law_shuffled := Cal.of X G d_law_shuffled (fun _ _ _ _ _ _ us hl => match us, hl with | [_, _], _ => rfl) fun f fd F => ok_law_shuffled F T C_law_take
  have C_law_count : Cal l.prog w K mg base ⟨K, fun _ => 0⟩ 2 "_law_count" ["bits"] [] 1 f_law_count := Cal.of X G d_law_count (fun _ _ _ _ _ _ us hl => match us, hl with | [_], _ => rfl) fun f fd F => ok_law_count F T C_law_members
  have Ccovers : Cal l.prog w K mg base ⟨K, fun _ => 0⟩ 3 "covers" ["order"] [] 1 f_covers := Cal.of X G dcovers (fun _ _ _ _ _ _ us hl => match us, hl with | [_], _ => rfl) fun f fd F => okcovers F T Cmembers Cbelow
  have Cbetween : Cal l.prog w K mg base ⟨K, fun _ => 0⟩ 3 "between" ["order", "one", "other"] [] 3 f_between := Cal.of X G dbetween (fun _ _ _ _ _ _ us hl => match us, hl with | [_, _, _], _ => rfl) fun f fd F => okbetween F T Cmembers Cbelow
  have Clattice_paper : Cal l.prog w K mg base ⟨K, fun _ => 0⟩ 3 "lattice_paper" ["order"] [] 1 f_lattice_paper := Cal.of X G dlattice_paper (fun _ _ _ _ _ _ us hl => match us, hl with | [_], _ => rfl) fun f fd F => oklattice_paper F T Cbelow Cleast_of
  have Cbottom : Cal l.prog w K mg base ⟨K, fun _ => 0⟩ 3 "bottom" ["order"] [] 1 f_bottom := Cal.of X G dbottom (fun _ _ _ _ _ _ us hl => match us, hl with | [_], _ => rfl) fun f fd F => okbottom F T Cfull Cleast_of
  have Ctop : Cal l.prog w K mg base ⟨K, fun _ => 0⟩ 3 "top" ["order"] [] 1 f_top := Cal.of X G dtop (fun _ _ _ _ _ _ us hl => match us, hl with | [_], _ => rfl) fun f fd F => oktop F T Cfull Cbelow Cleast_of
  have C_law_close : Cal l.prog w K mg base ⟨K, fun _ => 0⟩ 3 "_law_close" ["n", "pairs"] [] 2 f_law_close := Cal.of X G d_law_close (fun _ _ _ _ _ _ us hl => match us, hl with | [_, _], _ => rfl) fun f fd F => ok_law_close F T C_law_bits
  have C_law_by_sets : Cal l.prog w K mg base ⟨K, fun _ => 0⟩ 3 "_law_by_sets" ["rows"] [] 1 f_law_by_sets := Cal.of X G d_law_by_sets (fun _ _ _ _ _ _ us hl => match us, hl with | [_], _ => rfl) fun f fd F => ok_law_by_sets F T C_law_bits C_law_inside
  have C_law_downs : Cal l.prog w K mg base ⟨K, fun _ => 0⟩ 3 "_law_downs" ["order"] [] 1 f_law_downs := Cal.of X G d_law_downs (fun _ _ _ _ _ _ us hl => match us, hl with | [_], _ => rfl) fun f fd F => ok_law_downs F T C_law_bits C_law_has
  have C_law_named : Cal l.prog w K mg base ⟨K, fun _ => 0⟩ 3 "_law_named" ["order", "p"] [] 2 f_law_named := Cal.of X G d_law_named (fun _ _ _ _ _ _ us hl => match us, hl with | [_, _], _ => rfl) fun f fd F => ok_law_named F T C_law_bits C_law_members
  have Cmoebius_table : Cal l.prog w K mg base ⟨K, fun _ => 0⟩ 4 "moebius_table" ["order"] [] 1 f_moebius_table := Cal.of X G dmoebius_table (fun _ _ _ _ _ _ us hl => match us, hl with | [_], _ => rfl) fun f fd F => okmoebius_table F T Cmembers Ccount Cbelow Cbetween
  have Ctables_of : Cal l.prog w K mg base ⟨K, fun _ => 0⟩ 4 "tables_of" ["order"] [] 1 f_tables_of := Cal.of X G dtables_of (fun _ _ _ _ _ _ us hl => match us, hl with | [_], _ => rfl) fun f fd F => oktables_of F T Clattice_paper
  have Catoms : Cal l.prog w K mg base ⟨K, fun _ => 0⟩ 4 "atoms" ["order"] [] 1 f_atoms := Cal.of X G datoms (fun _ _ _ _ _ _ us hl => match us, hl with | [_], _ => rfl) fun f fd F => okatoms F T Ccovers Cbottom
  have C_law_down_sets : Cal l.prog w K mg base ⟨K, fun _ => 0⟩ 4 "_law_down_sets" ["order"] [] 1 f_law_down_sets := Cal.of X G d_law_down_sets (fun _ _ _ _ _ _ us hl => match us, hl with | [_], _ => rfl) fun f fd F => ok_law_down_sets F T C_law_bit C_law_inside C_law_downs C_law_members
  have C_law_order : Cal l.prog w K mg base ⟨K, fun _ => 0⟩ 4 "_law_order" ["d", "most"] [0] 2 f_law_order := Cal.of X G d_law_order (fun _ _ _ _ _ _ us hl => match us, hl with | [_, _], _ => rfl) fun f fd F => ok_law_order F T C_law_take C_law_close C_law_pick C_law_named C_law_shuffled
  have C_law_cuts : Cal l.prog w K mg base ⟨K, fun _ => 0⟩ 4 "_law_cuts" ["order"] [] 1 f_law_cuts := Cal.of X G d_law_cuts (fun _ _ _ _ _ _ us hl => match us, hl with | [_], _ => rfl) fun f fd F => ok_law_cuts F T C_law_bit C_law_downs C_law_members
  have C_law_lattice : Cal l.prog w K mg base ⟨K, fun _ => 0⟩ 5 "_law_lattice" ["d", "most"] [0] 2 f_law_lattice := Cal.of X G d_law_lattice (fun _ _ _ _ _ _ us hl => match us, hl with | [_, _], _ => rfl) fun f fd F => ok_law_lattice F T C_law_take C_law_close C_law_by_sets C_law_down_sets C_law_named C_law_shuffled C_law_order C_law_cuts
  exact oklaw (fun_mk ll lc lk) T Cpart_of Cmoebius_table Ceuler_number Ctables_of Cbottom Ctop Catoms C_law_begin C_law_take C_law_bit C_law_members C_law_lattice C_law_count
end K50
open PySem PySem.W PyProof.Rows in
set_option maxRecDepth 100000 in
set_option maxHeartbeats 0 in
theorem PySem.Challenge.cw_meetsandjoins_k50_whole_moebius_numbers_holds : PySem.Challenge.rw_meetsandjoins_k50_whole_moebius_numbers.Holds := by
  w_on; o_law; k_head; (case hw => w_witness2)
  k_fill
  refine L2.walk_of (l := PySem.Challenge.rw_meetsandjoins_k50_whole_moebius_numbers) (n := 63) (k := 6) (x := "script") (CX := fun _ => L2.CX0) (sp := fun w => FL.spF ⟨_, fun _ => 0⟩ [] 1 K50.f_law) rfl (by decide) rfl ⟨rfl, by decide, by decide⟩ (fun w h Y => PySem.W.kIn_of Y) ?F (fun _ _ a ns hl _ hS => FL.law_sp K50.law_true hl hS) (fun _ _ _ _ _ h => h)
  case F =>
    intro w mg fa h KX G hmg
    refine' K50.all_mk KX G hmg ?dbits_of ?dhas ?dmembers ?dcount ?dfull ?dinside ?dbelow ?dcovers ?dpart_of ?dbetween ?dmoebius_table ?deuler_number ?dleast_of ?dlattice_paper ?dtables_of ?dbottom ?dtop ?datoms ?d_law_begin ?d_law_take ?d_law_bit ?d_law_bits ?d_law_close ?d_law_inside ?d_law_by_sets ?d_law_has ?d_law_downs ?d_law_members ?d_law_down_sets ?d_law_pick ?d_law_named ?d_law_shuffled ?d_law_order ?d_law_cuts ?d_law_lattice ?d_law_count ?dlaw ?z_abs ?z_all ?z_any ?z_enumerate ?z_int ?z_len ?z_list ?z_range ?z_set ?z_sorted ?z_sum ?z_tuple
    case dbits_of => (refine' FL.Dfn.mk ?a ?l ?c ?k; (case a => k_is); (case l => k_is); (case c => k_is); (case k => k_is))
    case dhas => (refine' FL.Dfn.mk ?a ?l ?c ?k; (case a => k_is); (case l => k_is); (case c => k_is); (case k => k_is))
    case dmembers => (refine' FL.Dfn.mk ?a ?l ?c ?k; (case a => k_is); (case l => k_is); (case c => k_is); (case k => k_is))
    case dcount => (refine' FL.Dfn.mk ?a ?l ?c ?k; (case a => k_is); (case l => k_is); (case c => k_is); (case k => k_is))
    case dfull => (refine' FL.Dfn.mk ?a ?l ?c ?k; (case a => k_is); (case l => k_is); (case c => k_is); (case k => k_is))
    case dinside => (refine' FL.Dfn.mk ?a ?l ?c ?k; (case a => k_is); (case l => k_is); (case c => k_is); (case k => k_is))
    case dbelow => (refine' FL.Dfn.mk ?a ?l ?c ?k; (case a => k_is); (case l => k_is); (case c => k_is); (case k => k_is))
    case dcovers => (refine' FL.Dfn.mk ?a ?l ?c ?k; (case a => k_is); (case l => k_is); (case c => k_is); (case k => k_is))
    case dpart_of => (refine' FL.Dfn.mk ?a ?l ?c ?k; (case a => k_is); (case l => k_is); (case c => k_is); (case k => k_is))
    case dbetween => (refine' FL.Dfn.mk ?a ?l ?c ?k; (case a => k_is); (case l => k_is); (case c => k_is); (case k => k_is))
    case dmoebius_table => (refine' FL.Dfn.mk ?a ?l ?c ?k; (case a => k_is); (case l => k_is); (case c => k_is); (case k => k_is))
    case deuler_number => (refine' FL.Dfn.mk ?a ?l ?c ?k; (case a => k_is); (case l => k_is); (case c => k_is); (case k => k_is))
    case dleast_of => (refine' FL.Dfn.mk ?a ?l ?c ?k; (case a => k_is); (case l => k_is); (case c => k_is); (case k => k_is))
    case dlattice_paper => (refine' FL.Dfn.mk ?a ?l ?c ?k; (case a => k_is); (case l => k_is); (case c => k_is); (case k => k_is))
    case dtables_of => (refine' FL.Dfn.mk ?a ?l ?c ?k; (case a => k_is); (case l => k_is); (case c => k_is); (case k => k_is))
    case dbottom => (refine' FL.Dfn.mk ?a ?l ?c ?k; (case a => k_is); (case l => k_is); (case c => k_is); (case k => k_is))
    case dtop => (refine' FL.Dfn.mk ?a ?l ?c ?k; (case a => k_is); (case l => k_is); (case c => k_is); (case k => k_is))
    case datoms => (refine' FL.Dfn.mk ?a ?l ?c ?k; (case a => k_is); (case l => k_is); (case c => k_is); (case k => k_is))
    case d_law_begin => (refine' FL.Dfn.mk ?a ?l ?c ?k; (case a => k_is); (case l => k_is); (case c => k_is); (case k => k_is))
    case d_law_take => (refine' FL.Dfn.mk ?a ?l ?c ?k; (case a => k_is); (case l => k_is); (case c => k_is); (case k => k_is))
    case d_law_bit => (refine' FL.Dfn.mk ?a ?l ?c ?k; (case a => k_is); (case l => k_is); (case c => k_is); (case k => k_is))
    case d_law_bits => (refine' FL.Dfn.mk ?a ?l ?c ?k; (case a => k_is); (case l => k_is); (case c => k_is); (case k => k_is))
    case d_law_close => (refine' FL.Dfn.mk ?a ?l ?c ?k; (case a => k_is); (case l => k_is); (case c => k_is); (case k => k_is))
    case d_law_inside => (refine' FL.Dfn.mk ?a ?l ?c ?k; (case a => k_is); (case l => k_is); (case c => k_is); (case k => k_is))
    case d_law_by_sets => (refine' FL.Dfn.mk ?a ?l ?c ?k; (case a => k_is); (case l => k_is); (case c => k_is); (case k => k_is))
    case d_law_has => (refine' FL.Dfn.mk ?a ?l ?c ?k; (case a => k_is); (case l => k_is); (case c => k_is); (case k => k_is))
    case d_law_downs => (refine' FL.Dfn.mk ?a ?l ?c ?k; (case a => k_is); (case l => k_is); (case c => k_is); (case k => k_is))
    case d_law_members => (refine' FL.Dfn.mk ?a ?l ?c ?k; (case a => k_is); (case l => k_is); (case c => k_is); (case k => k_is))
    case d_law_down_sets => (refine' FL.Dfn.mk ?a ?l ?c ?k; (case a => k_is); (case l => k_is); (case c => k_is); (case k => k_is))
    case d_law_pick => (refine' FL.Dfn.mk ?a ?l ?c ?k; (case a => k_is); (case l => k_is); (case c => k_is); (case k => k_is))
    case d_law_named => (refine' FL.Dfn.mk ?a ?l ?c ?k; (case a => k_is); (case l => k_is); (case c => k_is); (case k => k_is))
    case d_law_shuffled => (refine' FL.Dfn.mk ?a ?l ?c ?k; (case a => k_is); (case l => k_is); (case c => k_is); (case k => k_is))
    case d_law_order => (refine' FL.Dfn.mk ?a ?l ?c ?k; (case a => k_is); (case l => k_is); (case c => k_is); (case k => k_is))
    case d_law_cuts => (refine' FL.Dfn.mk ?a ?l ?c ?k; (case a => k_is); (case l => k_is); (case c => k_is); (case k => k_is))
    case d_law_lattice => (refine' FL.Dfn.mk ?a ?l ?c ?k; (case a => k_is); (case l => k_is); (case c => k_is); (case k => k_is))
    case d_law_count => (refine' FL.Dfn.mk ?a ?l ?c ?k; (case a => k_is); (case l => k_is); (case c => k_is); (case k => k_is))
    case dlaw => (refine' FL.Dfn.mk ?a ?l ?c ?k; (case a => k_is); (case l => k_is); (case c => k_is); (case k => k_is))
    case z_abs => k_is
    case z_all => k_is
    case z_any => k_is
    case z_enumerate => k_is
    case z_int => k_is
    case z_len => k_is
    case z_list => k_is
    case z_range => k_is
    case z_set => k_is
    case z_sorted => k_is
    case z_sum => k_is
    case z_tuple => k_is
