import PyProof.Rows.All
import Wide.All
import OpenK.AllK
import Wide.FinOn
import HandS.ForMost
import HandS.Exc
import HandS.ExcOwn
import HandS.CallSlots
import HandS.Defaults
import HandS.TupSets
import HandS.SetKeys
import HandS.SortInts
import HandS.Zip
import HandS.Conv
import HandS.DictComp
import HandS.Style
import HandS.Wide
import HandS.Small
import HandS.Flow
import HandS.Keys
import HandS.TupAny
import HandS.TupMul
import HandS.IsInst
import KE.GoesNew
import KE.GoesMore
import HandS.Deep
import HandS.TupLen
import HandS.WordsDict
import HandS.SetFor
import HandS.Remove
import HandS.TupLe
import HandS.HeadEnd
import HandS.Head0
import HandS.Head1
import HandS.Head2
import HandS.HeadHook1
import HandS.HeadHook2
import PySem.Challenge.RW_levelhues_k01_rows_sizes_and_classes
set_option Elab.async false
set_option linter.all false
set_option maxRecDepth 100000
set_option maxHeartbeats 4000000
namespace DS
open PySem PySem.Spec L2
open PyProof.Rows hiding St

/-! ### data -/
inductive D where
  | non | bl (b : Bool) | int (i : Int) | str (s : Str)
  | tup (xs : List D) | lst (xs : List D) | ro (xs : List D)
  | dK (kvs : List (Key × D)) | dT (kvs : List (List Key × D))
  | ins (c : Str) (fs : List (Str × D))
  | loc (n : Nat)
  | fn (x : Str)
  | ty (n : String)
  /-- a tuple that is known to have no dict -/
  | tg (xs : List D)
instance : Inhabited D := ⟨.non⟩

abbrev Sto := List D
abbrev Env' := List (Option D)

/-! ### the global part, the world -/
structure Gb where
  P : Program
  w : World
  K : PySem.W.Frag
  mg : Str → Option Value
  base : Heap
structure Wd where
  F : Hp
  φ : List Addr
  /-- what stands by itself: no data names it -/
  prv : Hp
def HO.thaw : HO → Prop
  | .frz _ _ => False
  | _ => True
structure Wd.le0 (w w' : Wd) : Prop where
  sub : ∀ a u, HO.thaw u → Rd w.F a u → Rd w'.F a u
  pre : ∀ (n : Nat) (a : Addr), w.φ[n]? = some a → w'.φ[n]? = some a
  dir : ∀ a u, w.F a = some u → w'.F a = some u
structure Wd.le (w w' : Wd) : Prop extends Wd.le0 w w' where
  same : w'.prv = w.prv
theorem Wd.le0.refl (w : Wd) : w.le0 w := ⟨fun _ _ _ h => h, fun _ _ h => h, fun _ _ h => h⟩
theorem Wd.le0.trans {a b c : Wd} (h : a.le0 b) (k : b.le0 c) : a.le0 c := ⟨fun x u t r => k.sub x u t (h.sub x u t r), fun n x e => k.pre n x (h.pre n x e), fun a vs e => k.dir a vs (h.dir a vs e)⟩
theorem Wd.prv_le (w : Wd) (q : Hp) : w.le0 ⟨w.F, w.φ, q⟩ := ⟨fun _ _ _ h => h, fun _ _ h => h, fun _ _ h => h⟩
theorem Wd.le.refl (w : Wd) : w.le w := ⟨.refl w, rfl⟩
theorem Wd.le.trans {a b c : Wd} (h : a.le b) (k : b.le c) : a.le c := ⟨h.tole0.trans k.tole0, k.same.trans h.same⟩

/-- a tuple without a dict -/
def SqG (K : PySem.W.Frag) (H : Hp) (a : Addr) (xs : List V) : Prop :=
  (∃ o : Obj, H a = some (.frz o (.tup xs)) ∧ o.dict = none) ∨
    ∃ (o : Obj) (its : Array Value) (n : Nat), K.lookup a = some o ∧ o.cls = .type "tuple" ∧ o.dict = none ∧ o.data = .seq its n ∧ its.size ≤ sizeLine ∧ Vals xs its.toList
theorem SqG.t {K : PySem.W.Frag} {H : Hp} {a : Addr} {xs : List V} (h : SqG K H a xs) : SqT K H a xs := by
  rcases h with ⟨o, h, _⟩ | ⟨o, its, n, h1, h2, _, h3⟩
  · exact .inl (.inr ⟨o, h⟩)
  · exact .inr ⟨o, its, n, h1, h2, h3⟩
theorem SqG.mono {K : PySem.W.Frag} {H H' : Hp} {a : Addr} {xs : List V} (k : ∀ u, H a = some u → H' a = some u) (h : SqG K H a xs) : SqG K H' a xs := by
  rcases h with ⟨o, h, d⟩ | h
  · exact .inl ⟨o, k _ h, d⟩
  · exact .inr h
mutual
inductive Den (G : Gb) (w : Wd) : V → D → Prop where
  | non : Den G w .non .non
  | bl (b : Bool) : Den G w (.bl b) (.bl b)
  | int (i : Int) : Den G w (.int i) (.int i)
  | str (s : Str) : Den G w (.str s) (.str s)
  | tup {a : Addr} {vs : List V} {ds : List D} (h : SqT G.K w.F a vs) (r : DenL G w vs ds) : Den G w (.ref a) (.tup ds)
  | lst {a : Addr} {vs : List V} {ds : List D} (h : w.F a = some (.lst vs)) (r : DenL G w vs ds) : Den G w (.ref a) (.lst ds)
  | ro {a : Addr} {vs : List V} {ds : List D} (h : SqL G.K w.F a vs) (r : DenL G w vs ds) : Den G w (.ref a) (.ro ds)
  | dK {a : Addr} {kvs : List (Key × V)} {kds : List (Key × D)} (h : w.F a = some (.dK kvs)) (r : DenK G w kvs kds) : Den G w (.ref a) (.dK kds)
  | dT {a : Addr} {kvs : List (List Key × V)} {kds : List (List Key × D)} (h : w.F a = some (.dT kvs)) (r : DenT G w kvs kds) : Den G w (.ref a) (.dT kds)
  | ins {a C dx : Addr} {c : Str} {fs : List (Str × V)} {gs : List (Str × D)} (h : w.F a = some (.ins C dx fs)) (m : G.mg c = some (.ref C)) (r : DenF G w fs gs) : Den G w (.ref a) (.ins c gs)
  | loc {n : Nat} {a : Addr} (h : w.φ[n]? = some a) : Den G w (.ref a) (.loc n)
  | fn {x : Str} {v : V} {u : Value} (h : G.mg x = some u) (r : RelV v u) : Den G w v (.fn x)
  | ty (n : String) : Den G w (.ty n) (.ty n)
  | tg {a : Addr} {vs : List V} {ds : List D} (h : SqG G.K w.F a vs) (r : DenL G w vs ds) : Den G w (.ref a) (.tg ds)
inductive DenL (G : Gb) (w : Wd) : List V → List D → Prop where
  | nil : DenL G w [] []
  | cons {v : V} {d : D} {vs : List V} {ds : List D} (h : Den G w v d) (t : DenL G w vs ds) : DenL G w (v :: vs) (d :: ds)
inductive DenK (G : Gb) (w : Wd) : List (Key × V) → List (Key × D) → Prop where
  | nil : DenK G w [] []
  | cons {k : Key} {v : V} {d : D} {vs : List (Key × V)} {ds : List (Key × D)} (h : Den G w v d) (t : DenK G w vs ds) : DenK G w ((k, v) :: vs) ((k, d) :: ds)
inductive DenT (G : Gb) (w : Wd) : List (List Key × V) → List (List Key × D) → Prop where
  | nil : DenT G w [] []
  | cons {k : List Key} {v : V} {d : D} {vs : List (List Key × V)} {ds : List (List Key × D)} (h : Den G w v d) (t : DenT G w vs ds) : DenT G w ((k, v) :: vs) ((k, d) :: ds)
inductive DenF (G : Gb) (w : Wd) : List (Str × V) → List (Str × D) → Prop where
  | nil : DenF G w [] []
  | cons {k : Str} {v : V} {d : D} {vs : List (Str × V)} {ds : List (Str × D)} (h : Den G w v d) (t : DenF G w vs ds) : DenF G w ((k, v) :: vs) ((k, d) :: ds)
end

theorem SqT.le0 {K : PySem.W.Frag} {w w' : Wd} (h : w.le0 w') {a : Addr} {vs : List V} (s : SqT K w.F a vs) : SqT K w'.F a vs := by
  rcases s with s | s
  · exact .inl (h.sub _ _ trivial s)
  · exact .inr s
theorem SqL.le0 {K : PySem.W.Frag} {w w' : Wd} (h : w.le0 w') {a : Addr} {vs : List V} (s : SqL K w.F a vs) : SqL K w'.F a vs := by
  rcases s with s | s
  · exact .inl (h.sub _ _ trivial s)
  · exact .inr s
mutual
theorem Den.le0 {G : Gb} {w w' : Wd} (h : w.le0 w') : ∀ {v : V} {d : D}, Den G w v d → Den G w' v d
  | _, _, .non => .non
  | _, _, .bl b => .bl b
  | _, _, .int i => .int i
  | _, _, .str s => .str s
  | _, _, .tup s r => .tup (SqT.le0 h s) (DenL.le0 h r)
  | _, _, .lst s r => .lst (h.dir _ _ s) (DenL.le0 h r)
  | _, _, .ro s r => .ro (SqL.le0 h s) (DenL.le0 h r)
  | _, _, .dK s r => .dK (h.dir _ _ s) (DenK.le0 h r)
  | _, _, .dT s r => .dT (h.dir _ _ s) (DenT.le0 h r)
  | _, _, .ins s m r => .ins (h.dir _ _ s) m (DenF.le0 h r)
  | _, _, .loc e => .loc (h.pre _ _ e)
  | _, _, .fn e r => .fn e r
  | _, _, .ty n => .ty n
  | _, _, .tg s r => .tg (s.mono fun u e => h.dir _ _ e) (DenL.le0 h r)
theorem DenL.le0 {G : Gb} {w w' : Wd} (h : w.le0 w') : ∀ {v : List V} {d : List D}, DenL G w v d → DenL G w' v d
  | _, _, .nil => .nil
  | _, _, .cons a t => .cons (Den.le0 h a) (DenL.le0 h t)
theorem DenK.le0 {G : Gb} {w w' : Wd} (h : w.le0 w') : ∀ {v : List (Key × V)} {d : List (Key × D)}, DenK G w v d → DenK G w' v d
  | _, _, .nil => .nil
  | _, _, .cons a t => .cons (Den.le0 h a) (DenK.le0 h t)
theorem DenT.le0 {G : Gb} {w w' : Wd} (h : w.le0 w') : ∀ {v : List (List Key × V)} {d : List (List Key × D)}, DenT G w v d → DenT G w' v d
  | _, _, .nil => .nil
  | _, _, .cons a t => .cons (Den.le0 h a) (DenT.le0 h t)
theorem DenF.le0 {G : Gb} {w w' : Wd} (h : w.le0 w') : ∀ {v : List (Str × V)} {d : List (Str × D)}, DenF G w v d → DenF G w' v d
  | _, _, .nil => .nil
  | _, _, .cons a t => .cons (Den.le0 h a) (DenF.le0 h t)
end

/-- what is read: a tuple of either kind -/
def lo : D → D
  | .tg xs => .tup xs
  | d => d
theorem Den.lo {G : Gb} {w : Wd} {v : V} {d : D} (h : Den G w v d) : Den G w v (lo d) := by
  cases h with
  | tg h r => exact .tup h.t r
  | non => exact .non
  | bl b => exact .bl b
  | int i => exact .int i
  | str s => exact .str s
  | tup h r => exact .tup h r
  | lst h r => exact .lst h r
  | ro h r => exact .ro h r
  | dK h r => exact .dK h r
  | dT h r => exact .dT h r
  | ins h m r => exact .ins h m r
  | loc h => exact .loc h
  | fn h r => exact .fn h r
  | ty n => exact .ty n
theorem Den.le {G : Gb} {w w' : Wd} (h : w.le w') {v : V} {d : D} (r : Den G w v d) : Den G w' v d := Den.le0 h.tole0 r
theorem DenL.le {G : Gb} {w w' : Wd} (h : w.le w') {v : List V} {d : List D} (r : DenL G w v d) : DenL G w' v d := DenL.le0 h.tole0 r
theorem DenK.le {G : Gb} {w w' : Wd} (h : w.le w') {v : List (Key × V)} {d : List (Key × D)} (r : DenK G w v d) : DenK G w' v d := DenK.le0 h.tole0 r
theorem DenT.le {G : Gb} {w w' : Wd} (h : w.le w') {v : List (List Key × V)} {d : List (List Key × D)} (r : DenT G w v d) : DenT G w' v d := DenT.le0 h.tole0 r
theorem DenF.le {G : Gb} {w w' : Wd} (h : w.le w') {v : List (Str × V)} {d : List (Str × D)} (r : DenF G w v d) : DenF G w' v d := DenF.le0 h.tole0 r

/-! ### boxes -/
inductive BoxD (G : Gb) (w : Wd) : HO → D → Prop where
  | lst {vs : List V} {ds : List D} (r : DenL G w vs ds) : BoxD G w (.lst vs) (.lst ds)
  | dK {vs : List (Key × V)} {ds : List (Key × D)} (r : DenK G w vs ds) : BoxD G w (.dK vs) (.dK ds)
  | dT {vs : List (List Key × V)} {ds : List (List Key × D)} (r : DenT G w vs ds) : BoxD G w (.dT vs) (.dT ds)
  | ins {C dx : Addr} {c : Str} {fs : List (Str × V)} {gs : List (Str × D)} (m : G.mg c = some (.ref C)) (r : DenF G w fs gs) : BoxD G w (.ins C dx fs) (.ins c gs)
theorem BoxD.le0 {G : Gb} {w w' : Wd} (h : w.le0 w') {o : HO} {d : D} : BoxD G w o d → BoxD G w' o d
  | .lst r => .lst (DenL.le0 h r)
  | .dK r => .dK (DenK.le0 h r)
  | .dT r => .dT (DenT.le0 h r)
  | .ins m r => .ins m (DenF.le0 h r)
theorem BoxD.le {G : Gb} {w w' : Wd} (h : w.le w') {o : HO} {d : D} (r : BoxD G w o d) : BoxD G w' o d := r.le0 h.tole0
structure Rel (G : Gb) (w : Wd) (L : Sto) (H : Hp) : Prop where
  sub : ∀ a o, w.F a = some o → H a = some o
  len : w.φ.length = L.length
  nd : w.φ.Nodup
  free : ∀ a ∈ w.φ, w.F a = none
  box : ∀ (n : Nat) (a : Addr) (c : D), w.φ[n]? = some a → L[n]? = some c → ∃ o, H a = some o ∧ BoxD G w o c
  prv : ∀ a o, w.prv a = some o → H a = some o ∧ w.F a = none ∧ a ∉ w.φ
def EnvR (G : Gb) (w : Wd) (σ : St) (ρ : Env') : Prop := σ.length = ρ.length ∧ ∀ (i : Nat) (d : D), ρ[i]? = some (some d) → ∃ v, σ[i]? = some (some v) ∧ Den G w v d
theorem EnvR.le0 {G : Gb} {w w' : Wd} (h : w.le0 w') {σ : St} {ρ : Env'} (e : EnvR G w σ ρ) : EnvR G w' σ ρ := ⟨e.1, fun i d q => let ⟨v, a, b⟩ := e.2 i d q; ⟨v, a, Den.le0 h b⟩⟩
theorem EnvR.le {G : Gb} {w w' : Wd} (h : w.le w') {σ : St} {ρ : Env'} (e : EnvR G w σ ρ) : EnvR G w' σ ρ := e.le0 h.tole0
theorem EnvR.set {G : Gb} {w : Wd} {σ : St} {ρ : Env'} (e : EnvR G w σ ρ) (i : Nat) {v : V} {d : D} (h : Den G w v d) : EnvR G w (σ.set i (some v)) (ρ.set i (some d)) := by
  refine ⟨by rw [List.length_set, List.length_set, e.1], fun j x q => ?_⟩
  by_cases hj : i = j
  · subst hj
    by_cases hi : i < ρ.length
    · rw [List.getElem?_set_self hi] at q
      cases q
      exact ⟨v, List.getElem?_set_self (by rw [e.1]; exact hi), h⟩
    · rw [List.getElem?_eq_none (by rw [List.length_set]; omega)] at q
      cases q
  · rw [List.getElem?_set_ne hj] at q
    obtain ⟨u, a, b⟩ := e.2 j x q
    exact ⟨u, by rw [List.getElem?_set_ne hj]; exact a, b⟩
theorem EnvR.unset {G : Gb} {w : Wd} {σ : St} {ρ : Env'} (e : EnvR G w σ ρ) (i : Nat) : EnvR G w (σ.set i none) (ρ.set i none) := by
  refine ⟨by rw [List.length_set, List.length_set, e.1], fun j x q => ?_⟩
  by_cases hj : i = j
  · subst hj
    by_cases hi : i < ρ.length
    · rw [List.getElem?_set_self hi] at q
      cases q
    · rw [List.getElem?_eq_none (by rw [List.length_set]; omega)] at q
      cases q
  · rw [List.getElem?_set_ne hj] at q
    obtain ⟨u, a, b⟩ := e.2 j x q
    exact ⟨u, by rw [List.getElem?_set_ne hj]; exact a, b⟩
/-- two rows of one shape: the slots of a comprehension forgotten -/
def wipeE (ρ : Env') : List Nat → Env'
  | [] => ρ
  | v :: vs => (wipeE ρ vs).set v none
theorem EnvR.wipe {G : Gb} {w : Wd} {σ : St} {ρ : Env'} (e : EnvR G w σ ρ) : ∀ vs : List Nat, EnvR G w (wipe σ vs) (wipeE ρ vs)
  | [] => e
  | v :: vs => (EnvR.wipe e vs).unset v

section
variable {G : Gb} {w : Wd} {L : Sto} {H : Hp}
theorem Rel.newF (R : Rel G w L H) {p : Addr} {o : HO} (hp : H p = none) : Rel G ⟨upd w.F p o, w.φ, w.prv⟩ L (upd H p o) ∧ w.le ⟨upd w.F p o, w.φ, w.prv⟩ := by
  have hF : w.F p = none := by
    cases q : w.F p with
    | none => rfl
    | some u => rw [R.sub _ _ q] at hp; cases hp
  have hφ : p ∉ w.φ := fun hm => by
    obtain ⟨n, hn, e⟩ := List.getElem_of_mem hm
    have e1 : w.φ[n]? = some p := by rw [List.getElem?_eq_getElem hn, e]
    have hL : n < L.length := by rw [← R.len]; exact hn
    obtain ⟨o, h1, _⟩ := R.box n p L[n] e1 (List.getElem?_eq_getElem hL)
    rw [hp] at h1; cases h1
  have le : w.le ⟨upd w.F p o, w.φ, w.prv⟩ := ⟨⟨fun a u _ r => by
    have ne : ∀ z, w.F a = some z → a ≠ p := fun z e q => by subst q; rw [hF] at e; cases e
    rcases r with r | ⟨ob, r⟩
    · exact .inl (show upd w.F p o a = some u by rw [upd_ne (ne _ r)]; exact r)
    · exact .inr ⟨ob, show upd w.F p o a = _ by rw [upd_ne (ne _ r)]; exact r⟩, fun _ _ h => h, fun a vs r => by
    show upd w.F p o a = _
    rw [upd_ne (fun q => by subst q; rw [hF] at r; cases r)]; exact r⟩, rfl⟩
  refine ⟨⟨fun a u e => ?_, R.len, R.nd, fun a ha => ?_, fun n a c e1 e2 => ?_, fun a u e => ?_⟩, le⟩
  · have e' : upd w.F p o a = some u := e
    by_cases hb : a = p
    · subst hb; rw [upd_same] at e' ⊢; exact e'
    · rw [upd_ne hb] at e' ⊢; exact R.sub _ _ e'
  · have na : a ≠ p := fun q => hφ (q ▸ ha)
    show upd w.F p o a = none
    rw [upd_ne na]; exact R.free a ha
  · obtain ⟨ob, h1, h2⟩ := R.box n a c e1 e2
    exact ⟨ob, by rw [upd_ne (ne_of_none h1 hp)]; exact h1, h2.le le⟩
  · obtain ⟨h1, h2, h3⟩ := R.prv a u e
    have ne := ne_of_none h1 hp
    exact ⟨by rw [upd_ne ne]; exact h1, by show upd w.F p o a = none; rw [upd_ne ne]; exact h2, h3⟩
theorem getElem?_lt {α : Type} {l : List α} {n : Nat} {a : α} (h : l[n]? = some a) : n < l.length := (List.getElem?_eq_some_iff.mp h).1
theorem Rel.newB (R : Rel G w L H) {p : Addr} {o : HO} {c : D} (hp : H p = none) (hb : BoxD G ⟨w.F, w.φ ++ [p], w.prv⟩ o c) : Rel G ⟨w.F, w.φ ++ [p], w.prv⟩ (L ++ [c]) (upd H p o) ∧ w.le ⟨w.F, w.φ ++ [p], w.prv⟩ := by
  have hF : w.F p = none := by
    cases q : w.F p with
    | none => rfl
    | some u => rw [R.sub _ _ q] at hp; cases hp
  have hφ : p ∉ w.φ := fun hm => by
    obtain ⟨n, hn, e⟩ := List.getElem_of_mem hm
    have e1 : w.φ[n]? = some p := by rw [List.getElem?_eq_getElem hn, e]
    have hL : n < L.length := by rw [← R.len]; exact hn
    obtain ⟨o, h1, _⟩ := R.box n p L[n] e1 (List.getElem?_eq_getElem hL)
    rw [hp] at h1; cases h1
  have le : w.le ⟨w.F, w.φ ++ [p], w.prv⟩ := ⟨⟨fun _ _ _ r => r, fun n a e => (List.getElem?_append_left (getElem?_lt e)).trans e, fun _ _ r => r⟩, rfl⟩
  refine ⟨⟨fun a u e => ?_, by simp [R.len], ?_, fun a ha => ?_, fun n a c' e1 e2 => ?_, fun a u e => ?_⟩, le⟩
  · have e' : w.F a = some u := e
    rw [upd_ne (fun q => by subst q; rw [hF] at e'; cases e')]; exact R.sub _ _ e'
  · rw [List.nodup_append]
    exact ⟨R.nd, by simp, fun a ha b hb => by
      rw [List.mem_singleton] at hb; subst hb; exact fun q => hφ (q ▸ ha)⟩
  · rcases List.mem_append.mp (show a ∈ w.φ ++ [p] from ha) with h | h
    · exact R.free a h
    · rw [List.mem_singleton] at h; subst h; exact hF
  · have e1' : (w.φ ++ [p])[n]? = some a := e1
    by_cases hn : n < w.φ.length
    · rw [List.getElem?_append_left hn] at e1'
      rw [List.getElem?_append_left (by rw [← R.len]; exact hn)] at e2
      obtain ⟨ob, h1, h2⟩ := R.box n a c' e1' e2
      exact ⟨ob, by rw [upd_ne (ne_of_none h1 hp)]; exact h1, h2.le le⟩
    · have hn' : n = w.φ.length := by
        have := getElem?_lt e1'
        simp at this; omega
      subst hn'
      rw [List.getElem?_append_right (Nat.le_refl _)] at e1'
      rw [R.len, List.getElem?_append_right (Nat.le_refl _)] at e2
      simp at e1' e2
      subst e1'; subst e2
      exact ⟨o, upd_same, hb⟩
  · obtain ⟨h1, h2, h3⟩ := R.prv a u e
    have ne := ne_of_none h1 hp
    refine ⟨by rw [upd_ne ne]; exact h1, h2, fun hm => ?_⟩
    rcases List.mem_append.mp (show a ∈ w.φ ++ [p] from hm) with h | h
    · exact h3 h
    · exact ne (List.mem_singleton.mp h)
/-- a box is changed -/
theorem Rel.put (R : Rel G w L H) {n : Nat} {p : Addr} {o : HO} {c : D} (hn : w.φ[n]? = some p) (hb : BoxD G w o c) : Rel G w (L.set n c) (upd H p o) := by
  refine ⟨fun a u e => ?_, by rw [List.length_set]; exact R.len, R.nd, R.free, fun m a c' e1 e2 => ?_, fun a u e => ?_⟩
  · have hm : p ∈ w.φ := List.mem_of_getElem? hn
    rw [upd_ne (fun q => by subst q; rw [R.free _ hm] at e; cases e)]; exact R.sub _ _ e
  · by_cases h : m = n
    · subst h
      rw [hn] at e1; cases e1
      rw [List.getElem?_set_self (by rw [← R.len]; exact getElem?_lt hn)] at e2
      cases e2
      exact ⟨o, upd_same, hb⟩
    · rw [List.getElem?_set_ne (Ne.symm h)] at e2
      obtain ⟨ob, h1, h2⟩ := R.box m a c' e1 e2
      refine ⟨ob, ?_, h2⟩
      rw [upd_ne]
      · exact h1
      · intro q
        subst q
        exact h ((List.getElem?_inj (getElem?_lt e1) R.nd).mp (e1.trans hn.symm))
  · obtain ⟨h1, h2, h3⟩ := R.prv a u e
    exact ⟨by rw [upd_ne (fun q => by subst q; exact h3 (List.mem_of_getElem? hn))]; exact h1, h2, h3⟩
/-- something new stands by itself -/
theorem Rel.newP (R : Rel G w L H) {p : Addr} {o : HO} (hp : H p = none) : Rel G ⟨w.F, w.φ, upd w.prv p o⟩ L (upd H p o) := by
  have hF : w.F p = none := by
    cases q : w.F p with
    | none => rfl
    | some u => rw [R.sub _ _ q] at hp; cases hp
  have hφ : p ∉ w.φ := fun hm => by
    obtain ⟨n, hn, e⟩ := List.getElem_of_mem hm
    have e1 : w.φ[n]? = some p := by rw [List.getElem?_eq_getElem hn, e]
    have hL : n < L.length := by rw [← R.len]; exact hn
    obtain ⟨o, h1, _⟩ := R.box n p L[n] e1 (List.getElem?_eq_getElem hL)
    rw [hp] at h1; cases h1
  refine ⟨fun a u e => ?_, R.len, R.nd, R.free, fun n a c e1 e2 => ?_, fun a u e => ?_⟩
  · have e' : w.F a = some u := e
    rw [upd_ne (fun q => by subst q; rw [hF] at e'; cases e')]; exact R.sub _ _ e'
  · obtain ⟨ob, h1, h2⟩ := R.box n a c e1 e2
    exact ⟨ob, by rw [upd_ne (ne_of_none h1 hp)]; exact h1, h2.le0 (Wd.prv_le w _)⟩
  · have e' : upd w.prv p o a = some u := e
    by_cases hb : a = p
    · subst hb; rw [upd_same] at e' ⊢; exact ⟨e', hF, hφ⟩
    · rw [upd_ne hb] at e' ⊢; exact R.prv a u e'
/-- it is changed -/
theorem Rel.putP (R : Rel G w L H) {p : Addr} {o o' : HO} (hp : w.prv p = some o) : Rel G ⟨w.F, w.φ, upd w.prv p o'⟩ L (upd H p o') := by
  obtain ⟨h1, h2, h3⟩ := R.prv p o hp
  refine ⟨fun a u e => ?_, R.len, R.nd, R.free, fun n a c e1 e2 => ?_, fun a u e => ?_⟩
  · have e' : w.F a = some u := e
    rw [upd_ne (fun q => by subst q; rw [h2] at e'; cases e')]; exact R.sub _ _ e'
  · obtain ⟨ob, k1, k2⟩ := R.box n a c e1 e2
    exact ⟨ob, by rw [upd_ne (fun q => by subst q; exact h3 (List.mem_of_getElem? e1))]; exact k1, k2.le0 (Wd.prv_le w _)⟩
  · have e' : upd w.prv p o' a = some u := e
    by_cases hb : a = p
    · subst hb; rw [upd_same] at e' ⊢; exact ⟨e', h2, h3⟩
    · rw [upd_ne hb] at e' ⊢; exact R.prv a u e'
/-- it is frozen, or boxed, and the rest of what stands by itself is as it was at w0 -/
theorem Rel.outP (R : Rel G w L H) {p : Addr} {o : HO} (hp : w.prv p = some o) (prv : Hp) (hq : ∀ a u, prv a = some u → a ≠ p ∧ w.prv a = some u) : Rel G ⟨upd w.F p o, w.φ, prv⟩ L H ∧ w.le0 ⟨upd w.F p o, w.φ, prv⟩ := by
  obtain ⟨h1, h2, h3⟩ := R.prv p o hp
  have le : w.le0 ⟨upd w.F p o, w.φ, prv⟩ := ⟨fun a u _ r => by
    have ne : ∀ z, w.F a = some z → a ≠ p := fun z e q => by subst q; rw [h2] at e; cases e
    rcases r with r | ⟨ob, r⟩
    · exact .inl (show upd w.F p o a = some u by rw [upd_ne (ne _ r)]; exact r)
    · exact .inr ⟨ob, show upd w.F p o a = _ by rw [upd_ne (ne _ r)]; exact r⟩, fun _ _ h => h, fun a vs r => by
    show upd w.F p o a = _
    rw [upd_ne (fun q => by subst q; rw [h2] at r; cases r)]; exact r⟩
  refine ⟨⟨fun a u e => ?_, R.len, R.nd, fun a ha => ?_, fun n a c e1 e2 => ?_, fun a u e => ?_⟩, le⟩
  · have e' : upd w.F p o a = some u := e
    by_cases hb : a = p
    · subst hb; rw [upd_same] at e'; cases e'; exact h1
    · rw [upd_ne hb] at e'; exact R.sub _ _ e'
  · show upd w.F p o a = none
    rw [upd_ne (fun q => by subst q; exact h3 ha)]; exact R.free a ha
  · obtain ⟨ob, k1, k2⟩ := R.box n a c e1 e2
    exact ⟨ob, k1, k2.le0 le⟩
  · obtain ⟨n1, n2⟩ := hq a u e
    obtain ⟨k1, k2, k3⟩ := R.prv a u n2
    exact ⟨k1, by show upd w.F p o a = none; rw [upd_ne n1]; exact k2, k3⟩
theorem Rel.outB (R : Rel G w L H) {p : Addr} {o : HO} {c : D} (hp : w.prv p = some o) (hb : BoxD G w o c) (prv : Hp) (hq : ∀ a u, prv a = some u → a ≠ p ∧ w.prv a = some u) :
    Rel G ⟨w.F, w.φ ++ [p], prv⟩ (L ++ [c]) H ∧ w.le0 ⟨w.F, w.φ ++ [p], prv⟩ := by
  obtain ⟨h1, h2, h3⟩ := R.prv p o hp
  have le : w.le0 ⟨w.F, w.φ ++ [p], prv⟩ := ⟨fun _ _ _ r => r, fun n a e => (List.getElem?_append_left (getElem?_lt e)).trans e, fun _ _ r => r⟩
  refine ⟨⟨R.sub, by simp [R.len], ?_, fun a ha => ?_, fun n a c' e1 e2 => ?_, fun a u e => ?_⟩, le⟩
  · rw [List.nodup_append]
    exact ⟨R.nd, by simp, fun a ha b hb => by
      rw [List.mem_singleton] at hb; subst hb; exact fun q => h3 (q ▸ ha)⟩
  · rcases List.mem_append.mp (show a ∈ w.φ ++ [p] from ha) with h | h
    · exact R.free a h
    · rw [List.mem_singleton] at h; subst h; exact h2
  · have e1' : (w.φ ++ [p])[n]? = some a := e1
    by_cases hn : n < w.φ.length
    · rw [List.getElem?_append_left hn] at e1'
      rw [List.getElem?_append_left (by rw [← R.len]; exact hn)] at e2
      obtain ⟨ob, k1, k2⟩ := R.box n a c' e1' e2
      exact ⟨ob, k1, k2.le0 le⟩
    · have hn' : n = w.φ.length := by
        have := getElem?_lt e1'
        simp at this; omega
      subst hn'
      rw [List.getElem?_append_right (Nat.le_refl _)] at e1'
      rw [R.len, List.getElem?_append_right (Nat.le_refl _)] at e2
      simp at e1' e2
      subst e1'; subst e2
      exact ⟨o, h1, hb.le0 le⟩
  · obtain ⟨n1, n2⟩ := hq a u e
    obtain ⟨k1, k2, k3⟩ := R.prv a u n2
    refine ⟨k1, k2, fun hm => ?_⟩
    rcases List.mem_append.mp (show a ∈ w.φ ++ [p] from hm) with h | h
    · exact k3 h
    · exact n1 (List.mem_singleton.mp h)
/-- what is read -/
theorem Rel.sqT (R : Rel G w L H) {a : Addr} {vs : List V} (h : SqT G.K w.F a vs) : SqT G.K H a vs := by
  rcases h with (h | ⟨o, h⟩) | h
  · exact .inl (.inl (R.sub _ _ h))
  · exact .inl (.inr ⟨o, R.sub _ _ h⟩)
  · exact .inr h
theorem Rel.sqL (R : Rel G w L H) {a : Addr} {vs : List V} (h : SqL G.K w.F a vs) : SqL G.K H a vs := by
  rcases h with (h | ⟨o, h⟩) | h
  · exact .inl (.inl (R.sub _ _ h))
  · exact .inl (.inr ⟨o, R.sub _ _ h⟩)
  · exact .inr h
theorem Rel.sqG (R : Rel G w L H) {a : Addr} {vs : List V} (h : SqG G.K w.F a vs) : SqG G.K H a vs := h.mono fun u e => R.sub _ _ e
theorem Rel.rd (R : Rel G w L H) {a : Addr} {u : HO} (h : Rd w.F a u) : Rd H a u := by
  rcases h with h | ⟨o, h⟩
  · exact .inl (R.sub _ _ h)
  · exact .inr ⟨o, R.sub _ _ h⟩
/-- a list's data, frozen or in a box -/
theorem Rel.boxAt (R : Rel G w L H) {n : Nat} {a : Addr} {c : D} (e : w.φ[n]? = some a) (hc : L[n]? = some c) : ∃ o, H a = some o ∧ BoxD G w o c := R.box n a c e hc
end

/-! ### results -/
inductive Res (α : Type) where
  | ok (a : α) (L : Sto)
  | err (c : Str) (p : List (Str × D)) (L : Sto)
  | bad
def Res.bind {α β : Type} (r : Res α) (k : α → Sto → Res β) : Res β := match r with
  | .ok a L => k a L
  | .err c p L => .err c p L
  | .bad => .bad
@[simp] theorem Res.bind_ok {α β : Type} (a : α) (L : Sto) (k : α → Sto → Res β) : (Res.ok a L).bind k = k a L := rfl
@[simp] theorem Res.bind_err {α β : Type} (c : Str) (p : List (Str × D)) (L : Sto) (k : α → Sto → Res β) : (Res.err c p L : Res α).bind k = .err c p L := rfl
@[simp] theorem Res.bind_bad {α β : Type} (k : α → Sto → Res β) : (Res.bad : Res α).bind k = .bad := rfl

/-- what an exception keeps: nothing, or its own dict -/
def ExcP (G : Gb) (w : Wd) (H : Hp) (dx : Option Addr) (p : List (Str × D)) : Prop :=
  (p = [] ∧ dx = none) ∨ ∃ (a : Addr) (fs : List (Str × V)), dx = some a ∧ w.F a = some (.xd fs) ∧ DenF G w fs p

section
variable (G : Gb)
def Post {α β : Type} (rel : Wd → β → α → Prop) (w : Wd) (r : Res α) (Q : β → Hp → Prop) (E : XK) : Prop := match r with
  | .ok a L => ∀ w' H v, w.le w' → Rel G w' L H → rel w' v a → Q v H
  | .err c p L => ∀ w' H dx, w.le w' → Rel G w' L H → ExcP G w' H dx p → ∀ C, G.mg c = some (.ref C) → E (.ref C) dx H
  | .bad => False
def tR {α β : Type} (rel : Wd → β → α → Prop) (W : WX) (f : Env' → Sto → Res α) : St → Hp → (β → Hp → Prop) → Prop := fun σ H Q =>
  ∃ w ρ L, Rel G w L H ∧ EnvR G w σ ρ ∧ Post G rel w (f ρ L) Q (fun c dx H' => W c dx σ H')
end
theorem Post.le {G : Gb} {α β : Type} {rel : Wd → β → α → Prop} {w w' : Wd} (h : w.le w') {r : Res α} {Q : β → Hp → Prop} {E : XK} (p : Post G rel w r Q E) : Post G rel w' r Q E := by
  cases r with
  | ok a L => exact fun w2 H v l R d => p w2 H v (h.trans l) R d
  | err c q L => exact fun w2 H dx l R x C m => p w2 H dx (h.trans l) R x C m
  | bad => exact p
theorem Post.imp {G : Gb} {α β : Type} {rel : Wd → β → α → Prop} {w : Wd} {r : Res α} {Q Q' : β → Hp → Prop} {E E' : XK} (p : Post G rel w r Q E) (h : ∀ v H, Q v H → Q' v H) (hE : ∀ c d H, E c d H → E' c d H) : Post G rel w r Q' E' := by
  cases r with
  | ok a L => exact fun w2 H v l R d => h _ _ (p w2 H v l R d)
  | err c q L => exact fun w2 H dx l R x C m => hE _ _ _ (p w2 H dx l R x C m)
  | bad => exact p
theorem Post.bind {G : Gb} {α α' β β' : Type} {rel : Wd → β → α → Prop} {rel' : Wd → β' → α' → Prop} {w : Wd} {r : Res α} {k : α → Sto → Res α'} {Q : β' → Hp → Prop} {E : XK} (p : Post G rel' w (r.bind k) Q E) :
    Post G rel w r (fun v H => ∃ w' a L, w.le w' ∧ Rel G w' L H ∧ rel w' v a ∧ Post G rel' w' (k a L) Q E) E := by
  cases r with
  | ok a L => exact fun w2 H v l R d => ⟨w2, a, L, l, R, d, Post.le l p⟩
  | err c q L => exact p
  | bad => exact p
/-- the value at once -/
theorem Post.ok {G : Gb} {α β : Type} {rel : Wd → β → α → Prop} {w : Wd} {a : α} {L : Sto} {Q : β → Hp → Prop} {E : XK} (p : Post G rel w (.ok a L) Q E) {w' : Wd} {H : Hp} {v : β} (l : w.le w') (R : Rel G w' L H) (d : rel w' v a) : Q v H := p w' H v l R d
end DS
set_option Elab.async false
set_option linter.all false
set_option maxRecDepth 100000
set_option maxHeartbeats 4000000
namespace DS
open PySem PySem.Spec L2
open PyProof.Rows hiding St

/-! ### the place of a piece of code -/
structure Sc where
  g : Gb
  N : List Str
  sc : Scope
  fn : Str → Bool
  k : Nat
structure Sc.Has (S : Sc) (W : WX) (X : Cx) : Prop where
  P : S.g.P = X.prog
  w : S.g.w = X.w
  K : S.g.K = X.K
  mg : S.g.mg = X.mg
  base : S.g.base = X.base
  N : S.N = X.N
  sc : S.sc = X.env.scope
  fn : S.fn = X.fn
  calm : X.calm = true
  room : Room S.k X.A
  takes : Takes X W
  passes : PassesOwn (model X.prog X.w) X.A X.env X.xe

def Glb (S : Sc) (x : Str) : Prop := S.sc.names.lookup x = some .globalImplicit
theorem PE.imp {X : Cx} {e : Expr} {t u : TE} (h : PE X e t) (k : ∀ σ H Q, u σ H Q → t σ H Q) : PE X e u := ⟨fun pins s σ H Q I q => h.run pins s σ H Q I (k σ H Q q)⟩
theorem PT.imp {X : Cx} {e : Expr} {t u : TT} (h : PT X e t) (k : ∀ σ H Q, u σ H Q → t σ H Q) : PT X e u := ⟨fun pins s σ H Q I q => h.run pins s σ H Q I (k σ H Q q)⟩
theorem PW.imp {X : Cx} {e : Expr} {t u : TT} (h : PW X e t) (k : ∀ σ H Q, u σ H Q → t σ H Q) : PW X e u := ⟨fun wh pins s σ H Q I q => h.run wh pins s σ H Q I (k σ H Q q)⟩
theorem PA.imp {X : Cx} {e : List Expr} {t u : TA} (h : PA X e t) (k : ∀ σ H Q, u σ H Q → t σ H Q) : PA X e u := ⟨fun pos pins s σ H Q I q => h.run pos pins s σ H Q I (k σ H Q q)⟩
theorem PS.imp {X : Cx} {e : Stmt} {t u : TS} (h : PS X e t) (k : ∀ D σ H, u D σ H → t D σ H) : PS X e u := ⟨fun pins s σ H D I q => h.run pins s σ H D I (k D σ H q)⟩
theorem PSs.imp {X : Cx} {e : List Stmt} {t u : TS} (h : PSs X e t) (k : ∀ D σ H, u D σ H → t D σ H) : PSs X e u := ⟨fun pins s σ H D I q => h.run pins s σ H D I (k D σ H q)⟩
theorem PG.imp {X : Cx} {e : Expr} {t u : TG} (h : PG X e t) (k : ∀ v σ H Q, u v σ H Q → t v σ H Q) : PG X e u := ⟨fun pins s σ H v u Q I r q => h.run pins s σ H v u Q I r (k v σ H Q q)⟩
theorem PGs.imp {X : Cx} {e : List Expr} {t u : TGs} (h : PGs X e t) (k : ∀ v σ H Q, u v σ H Q → t v σ H Q) : PGs X e u := ⟨fun pins s σ H v u Q I r q => h.run pins s σ H v u Q I r (k v σ H Q q)⟩
theorem PI.imp {X : Cx} {tg e : Expr} {t u : TI} (h : PI X tg e t) (k : ∀ σ H Q, u σ H Q → t σ H Q) : PI X tg e u := ⟨fun pins s σ H Q I q => h.run pins s σ H Q I (k σ H Q q)⟩

/-! ### statements' results -/
inductive SRes where
  | nx (ρ : Env') (L : Sto)
  | rt (d : D) (L : Sto)
  | bk (ρ : Env') (L : Sto)
  | ct (ρ : Env') (L : Sto)
  | err (c : Str) (p : List (Str × D)) (ρ : Env') (L : Sto)
  | bad
abbrev EF := Env' → Sto → Res D
abbrev TF := Env' → Sto → Res Bool
abbrev AF := Env' → Sto → Res (List D)
abbrev SF := Env' → Sto → SRes
/-- a target: what the slots are behind it -/
abbrev GF := D → Env' → Option Env'
structure Its where
  ds : List D
  src : List (Nat × D)
abbrev IF := Env' → Sto → Res Its

section
variable (G : Gb)
def PostS (w : Wd) (r : SRes) (E : Ends) (W : WX) : Prop := match r with
  | .nx ρ L => ∀ w' σ H, w.le w' → Rel G w' L H → EnvR G w' σ ρ → E.nx σ H
  | .rt d L => ∀ w' v H, w.le w' → Rel G w' L H → Den G w' v d → E.rt v H
  | .bk ρ L => ∀ w' σ H, w.le w' → Rel G w' L H → EnvR G w' σ ρ → E.bk σ H
  | .ct ρ L => ∀ w' σ H, w.le w' → Rel G w' L H → EnvR G w' σ ρ → E.ct σ H
  | .err c p ρ L => ∀ w' σ H dx, w.le w' → Rel G w' L H → EnvR G w' σ ρ → ExcP G w' H dx p → ∀ C, G.mg c = some (.ref C) → W (.ref C) dx σ H
  | .bad => False
def tS (W : WX) (f : SF) : TS := fun E σ H => ∃ w ρ L, Rel G w L H ∧ EnvR G w σ ρ ∧ PostS G w (f ρ L) E W
def tG (own : List Nat) (f : GF) : TG := fun v σ H Q => ∃ w ρ L d ρ', Rel G w L H ∧ EnvR G w σ ρ ∧ Den G w v d ∧ f d ρ = some ρ' ∧ ∀ σ', EnvR G w σ' ρ' → L2.wipe σ' own = L2.wipe σ own → Q σ' H
def tGs (own : List Nat) (f : List D → Env' → Option Env') : TGs := fun vs σ H Q => ∃ w ρ L ds ρ', Rel G w L H ∧ EnvR G w σ ρ ∧ DenL G w vs ds ∧ f ds ρ = some ρ' ∧ ∀ σ', EnvR G w σ' ρ' → L2.wipe σ' own = L2.wipe σ own → Q σ' H
def srcOk (L : Sto) (s : List (Nat × D)) : Prop := ∀ p ∈ s, L[p.1]? = some p.2
/-- what J yields -/
def ItOk (w0 : Wd) (s : List (Nat × D)) (J : It) (ds : List D) : Prop := ∀ w L H, w0.le0 w → Rel G w L H → srcOk L s → ∀ i : Nat,
  (∀ d, ds[i]? = some d → J.go i H ∧ ∀ x H', J.yld i H x H' → ∃ w', w.le w' ∧ Rel G w' L H' ∧ Den G w' x d) ∧ (i = ds.length → J.stop i H)
def PostI (w : Wd) (r : Res Its) (R : It → Hp → Prop) (E : XK) : Prop := match r with
  | .ok its L => ∀ w' H J, w.le w' → Rel G w' L H → srcOk L its.src → ItOk G w' its.src J its.ds → R J H
  | .err c p L => ∀ w' H dx, w.le w' → Rel G w' L H → ExcP G w' H dx p → ∀ C, G.mg c = some (.ref C) → E (.ref C) dx H
  | .bad => False
def tI (W : WX) (f : IF) : TI := fun σ H R => ∃ w ρ L, Rel G w L H ∧ EnvR G w σ ρ ∧ PostI G w (f ρ L) R (fun c dx H' => W c dx σ H')
end
theorem PostS.le {G : Gb} {w w' : Wd} (h : w.le w') {r : SRes} {E : Ends} {W : WX} (p : PostS G w r E W) : PostS G w' r E W := by
  cases r with
  | nx ρ L => exact fun w2 σ H l R e => p w2 σ H (h.trans l) R e
  | rt d L => exact fun w2 v H l R e => p w2 v H (h.trans l) R e
  | bk ρ L => exact fun w2 σ H l R e => p w2 σ H (h.trans l) R e
  | ct ρ L => exact fun w2 σ H l R e => p w2 σ H (h.trans l) R e
  | err c q ρ L => exact fun w2 σ H dx l R e x C m => p w2 σ H dx (h.trans l) R e x C m
  | bad => exact p

def SE (S : Sc) (W : WX) (e : Expr) (f : EF) : Prop := ∀ X, S.Has W X → PE X e (tR S.g (Den S.g) W f)
def ST (S : Sc) (W : WX) (e : Expr) (f : TF) : Prop := ∀ X, S.Has W X → PT X e (tR S.g (fun _ a b => a = b) W f)
def SW (S : Sc) (W : WX) (e : Expr) (f : TF) : Prop := ∀ X, S.Has W X → PW X e (tR S.g (fun _ a b => a = b) W f)
def SA (S : Sc) (W : WX) (es : List Expr) (f : AF) : Prop := ∀ X, S.Has W X → PA X es (tR S.g (DenL S.g) W f)
def SS (S : Sc) (W : WX) (st : Stmt) (f : SF) : Prop := ∀ X, S.Has W X → PS X st (tS S.g W f)
def SSs (S : Sc) (W : WX) (st : List Stmt) (f : SF) : Prop := ∀ X, S.Has W X → PSs X st (tS S.g W f)
def SG (S : Sc) (W : WX) (own : List Nat) (tg : Expr) (f : GF) : Prop := ∀ X, S.Has W X → PG X tg (tG S.g own f)
def SGs (S : Sc) (W : WX) (own : List Nat) (tgs : List Expr) (f : List D → Env' → Option Env') : Prop := ∀ X, S.Has W X → PGs X tgs (tGs S.g own f)
def SI (S : Sc) (W : WX) (tg e : Expr) (f : IF) : Prop := ∀ X, S.Has W X → PI X tg e (tI S.g W f)

/-! ### names, constants -/
def eVar (i : Nat) : EF := fun ρ L => match ρ[i]? with
  | some (some d) => .ok d L
  | _ => .bad
def eC (d : D) : EF := fun _ L => .ok d L
section
variable {S : Sc} {W : WX} {a b e c : Expr} {fa fb : EF} {pos : Pos}
theorem se_var (i : Nat) {x : Str} (hN : S.N[i]? = some x := by rfl) (hv : Vis S.sc x := by first | exact Or.inl rfl | exact Or.inr (Or.inl rfl) | exact Or.inr (Or.inr rfl))
    (hd : (x == ("__debug__" : Str)) = false := by decide) (hcd : (x == ("__classdict__" : Str)) = false := by decide) : SE S W (.Name x pos) (eVar i) := fun X h => by
  refine PE.imp (pe_var (i := i) (by rw [← h.N]; exact hN) (by rw [← h.sc]; exact hv) hd hcd) fun σ H Q ⟨w, ρ, L, R, e, p⟩ => ?_
  unfold eVar at p
  split at p
  · rename_i d q
    obtain ⟨v, h1, h2⟩ := e.2 i d q
    exact ⟨v, h1, p.ok (Wd.le.refl w) R h2⟩
  · exact p.elim
/-- a value written in the text -/
theorem se_const {d : D} {v : V} (hp : ∀ X : Cx, PE X e (tC v)) (hd : ∀ G w, Den G w v d) : SE S W e (eC d) := fun X h =>
  PE.imp (hp X) fun σ H Q ⟨w, ρ, L, R, e, p⟩ => p.ok (Wd.le.refl w) R (hd S.g w)
theorem se_int {i : Int} {j : Nat} : SE S W (.Constant (.int i) j pos) (eC (.int i)) := se_const (fun _ => pe_int) fun _ _ => .int i
theorem se_bl {i : Bool} {j : Nat} : SE S W (.Constant (.bool i) j pos) (eC (.bl i)) := se_const (fun _ => pe_bl) fun _ _ => .bl i
theorem se_non {j : Nat} : SE S W (.Constant .none j pos) (eC .non) := se_const (fun _ => pe_non) fun _ _ => .non
theorem se_str {x : Str} {j : Nat} : SE S W (.Constant (.str x) j pos) (eC (.str x)) := se_const (fun _ => pe_str) fun _ _ => .str x
/-- a module's name -/
theorem se_glob {x : Str} {v : V} {u : Value} {d : D} (hg : Glb S x) (hm : S.g.mg x = some u) (r : RelV v u) (hd : ∀ w, Den S.g w v d) (hdb : (x == ("__debug__" : Str)) = false := by decide) :
    SE S W (.Name x pos) (eC d) := fun X h =>
  PE.imp (pe_glob (v := v) (u := u) (by show X.env.scope.names.lookup x = _; rw [← h.sc]; exact hg) (by rw [← h.mg]; exact hm) r hdb) fun σ H Q ⟨w, ρ, L, R, e, p⟩ => p.ok (Wd.le.refl w) R (hd w)

/-! ### operators by values -/
/-- a rule by values and what it does to data -/
def R2D (G : Gb) (r : R2) (g : D → D → Sto → Res D) : Prop := ∀ (w : Wd) (L : Sto) (H : Hp) (x y : V) (d e : D) (Q : VK) (E : XK), Rel G w L H → Den G w x d → Den G w y e → Post G (Den G) w (g d e L) Q E → r x y H Q
def R1D (G : Gb) (r : V → Hp → VK → Prop) (g : D → Sto → Res D) : Prop := ∀ (w : Wd) (L : Sto) (H : Hp) (x : V) (d : D) (Q : VK) (E : XK), Rel G w L H → Den G w x d → Post G (Den G) w (g d L) Q E → r x H Q
def RnD (G : Gb) (r : List V → Hp → VK → Prop) (g : List D → Sto → Res D) : Prop := ∀ (w : Wd) (L : Sto) (H : Hp) (x : List V) (d : List D) (Q : VK) (E : XK), Rel G w L H → DenL G w x d → Post G (Den G) w (g d L) Q E → r x H Q
def e2 (g : D → D → Sto → Res D) (fa fb : EF) : EF := fun ρ L => (fa ρ L).bind fun d L1 => (fb ρ L1).bind fun e L2 => g d e L2
def e1 (g : D → Sto → Res D) (fa : EF) : EF := fun ρ L => (fa ρ L).bind g
def en (g : List D → Sto → Res D) (fa : AF) : EF := fun ρ L => (fa ρ L).bind g
theorem tOp_of {G : Gb} {r : R2} {g : D → D → Sto → Res D} (hr : R2D G r g) {σ : St} {H : Hp} {Q : VK} (h : tR G (Den G) W (e2 g fa fb) σ H Q) : tOp r (tR G (Den G) W fa) (tR G (Den G) W fb) σ H Q := by
  obtain ⟨w, ρ, L, R, e, p⟩ := h
  refine ⟨w, ρ, L, R, e, (Post.bind (rel := Den G) p).imp (fun x H1 ⟨w1, d, L1, l1, R1, d1, p1⟩ => ?_) fun _ _ _ z => z⟩
  refine ⟨w1, ρ, L1, R1, e.le l1, (Post.bind (rel := Den G) p1).imp (fun y H2 ⟨w2, d', L2, l2, R2, d2, p2⟩ => ?_) fun _ _ _ z => z⟩
  exact hr w2 L2 H2 x y d d' Q _ R2 (d1.le l2) d2 p2
theorem se_op {op : Operator} {r : R2} {g : D → D → Sto → Res D} (ho : ∀ X, S.Has W X → OpR X (binaryOp op) r) (hr : R2D S.g r g) (ha : SE S W a fa) (hb : SE S W b fb) : SE S W (.BinOp a op b pos) (e2 g fa fb) := fun X h =>
  PE.imp (pe_op (ho X h) (ha X h) (hb X h)) fun σ H Q q => tOp_of hr q
theorem se_un {op : UnaryOp} {r : V → Hp → VK → Prop} {g : D → Sto → Res D} (ho : ∀ X, S.Has W X → UnR X (unaryOp op) r) (hr : R1D S.g r g) (ha : SE S W a fa) : SE S W (.UnaryOp op a pos) (e1 g fa) := fun X h =>
  PE.imp (pe_un (ho X h) (ha X h)) fun σ H Q ⟨w, ρ, L, R, e, p⟩ =>
    ⟨w, ρ, L, R, e, (Post.bind (rel := Den S.g) p).imp (fun x H1 ⟨w1, d, L1, l1, R1, d1, p1⟩ => hr w1 L1 H1 x d Q _ R1 d1 p1) fun _ _ _ z => z⟩
theorem se_cmp {op : CmpOp} {r : R2} {g : D → D → Sto → Res D} (ho : ∀ X, S.Has W X → OpR X (compareOp op) r) (hr : R2D S.g r g) (ha : SE S W a fa) (hb : SE S W b fb) (hm : behindInMarks op b = false) : SE S W (.Compare a [op] [b] pos) (e2 g fa fb) := fun X h =>
  PE.imp (pe_cmpR (ho X h) (ha X h) (hb X h) hm) fun σ H Q q => tOp_of hr q
/-- a bool's value as a test -/
def asB (r : Res D) : Res Bool := r.bind fun d L => match d with
  | .bl b => .ok b L
  | _ => .bad
theorem Post.asB {G : Gb} {w : Wd} {r : Res D} {Q : Bool → Hp → Prop} {E : XK} (p : Post G (fun _ a b => a = b) w (asB r) Q E) : Post G (Den G) w r (fun x H => ∃ k, x = .bl k ∧ Q k H) E := by
  refine (Post.bind (rel := Den G) p).imp (fun x H ⟨w1, d, L1, l1, R1, d1, p1⟩ => ?_) fun _ _ _ z => z
  cases d with
  | bl b => cases d1; exact ⟨b, rfl, Post.ok p1 (Wd.le.refl _) R1 rfl⟩
  | _ => exact p1.elim
theorem st_cmp {op : CmpOp} {r : R2} {g : D → D → Sto → Res D} (ho : ∀ X, S.Has W X → OpR X (compareOp op) r) (hr : R2D S.g r g) (ha : SE S W a fa) (hb : SE S W b fb) (hm : behindInMarks op b = false) : ST S W (.Compare a [op] [b] pos) (fun ρ L => asB (e2 g fa fb ρ L)) := fun X h =>
  PT.imp (pt_cmpR (ho X h) (ha X h) (hb X h) hm) fun σ H Q ⟨w, ρ, L, R, e, p⟩ => tOp_of hr ⟨w, ρ, L, R, e, Post.asB p⟩
/-- a value that is a bool, tested (calls, names ..) -/
theorem st_val {f : EF} (he : SE S W e f) (ht : ∀ (env : Env) whole, isTrue e env whole = (do let v ← whole; standAt e.pos; holding [v] (truthy v)) := by intro _ _; rfl) : ST S W e (fun ρ L => asB (f ρ L)) := fun X h =>
  PT.imp (pt_val (he X h) (ht X.env)) fun σ H Q ⟨w, ρ, L, R, e, p⟩ => ⟨w, ρ, L, R, e, Post.asB p⟩
/-! ### and, or, not -/
def tAndF (f g : TF) : TF := fun ρ L => (f ρ L).bind fun c L1 => if c = true then g ρ L1 else .ok false L1
def tOrF (f g : TF) : TF := fun ρ L => (f ρ L).bind fun c L1 => if c = true then .ok true L1 else g ρ L1
def tNotF (f : TF) : TF := fun ρ L => (f ρ L).bind fun c L1 => .ok (!c) L1
def ofB (r : Res Bool) : Res D := r.bind fun b L => .ok (.bl b) L
variable {ta tb : TF} {rest : List Expr}
abbrev eqR {α : Type} : Wd → α → α → Prop := fun _ a b => a = b
theorem sw_one_and (h : ST S W a ta) : SW S W (.BoolOp .And [a] pos) ta := fun X hX => pw_and1 (h X hX)
theorem sw_one_or (h : ST S W a ta) : SW S W (.BoolOp .Or [a] pos) ta := fun X hX => pw_or1 (h X hX)
theorem sw_and (ha : ST S W a ta) (hb : SW S W (.BoolOp .And (b :: rest) pos) tb) : SW S W (.BoolOp .And (a :: b :: rest) pos) (tAndF ta tb) := fun X h =>
  PW.imp (pw_and (ha X h) (hb X h)) fun σ H Q ⟨w, ρ, L, R, e, p⟩ => ⟨w, ρ, L, R, e, (Post.bind (rel := eqR) p).imp (fun c H1 ⟨w1, d, L1, l1, R1, d1, p1⟩ => by
    cases d1
    cases c with
    | true => exact ⟨w1, ρ, L1, R1, e.le l1, p1⟩
    | false => exact Post.ok p1 (Wd.le.refl _) R1 rfl) fun _ _ _ z => z⟩
theorem sw_or (ha : ST S W a ta) (hb : SW S W (.BoolOp .Or (b :: rest) pos) tb) : SW S W (.BoolOp .Or (a :: b :: rest) pos) (tOrF ta tb) := fun X h =>
  PW.imp (pw_or (ha X h) (hb X h)) fun σ H Q ⟨w, ρ, L, R, e, p⟩ => ⟨w, ρ, L, R, e, (Post.bind (rel := eqR) p).imp (fun c H1 ⟨w1, d, L1, l1, R1, d1, p1⟩ => by
    cases d1
    cases c with
    | true => exact Post.ok p1 (Wd.le.refl _) R1 rfl
    | false => exact ⟨w1, ρ, L1, R1, e.le l1, p1⟩) fun _ _ _ z => z⟩
theorem st_bool (h : SW S W e ta) : ST S W e ta := fun X hX => (h X hX).pt
theorem st_not (ha : ST S W a ta) : ST S W (.UnaryOp .Not a pos) (tNotF ta) := fun X h =>
  PT.imp (pt_not (ha X h)) fun σ H Q ⟨w, ρ, L, R, e, p⟩ => ⟨w, ρ, L, R, e, (Post.bind (rel := eqR) p).imp (fun c H1 ⟨w1, d, L1, l1, R1, d1, p1⟩ => by
    cases d1
    exact Post.ok p1 (Wd.le.refl _) R1 rfl) fun _ _ _ z => z⟩
/-- a if t else b -/
def eIf (t : TF) (f g : EF) : EF := fun ρ L => (t ρ L).bind fun c L1 => if c = true then f ρ L1 else g ρ L1
theorem se_if (hc : ST S W c ta) (ha : SE S W a fa) (hb : SE S W b fb) : SE S W (.IfExp c a b pos) (eIf ta fa fb) := fun X h =>
  PE.imp (pe_ifExp (hc X h) (ha X h) (hb X h)) fun σ H Q ⟨w, ρ, L, R, e, p⟩ => ⟨w, ρ, L, R, e, (Post.bind (rel := eqR) p).imp (fun c H1 ⟨w1, d, L1, l1, R1, d1, p1⟩ => by
    cases d1
    cases c with
    | true => exact ⟨w1, ρ, L1, R1, e.le l1, p1⟩
    | false => exact ⟨w1, ρ, L1, R1, e.le l1, p1⟩) fun _ _ _ z => z⟩
/-- and, or as values: all but the last True or False -/
def eAndF (f g : EF) : EF := fun ρ L => (asB (f ρ L)).bind fun c L1 => if c = true then g ρ L1 else .ok (.bl false) L1
def eOrF (f g : EF) : EF := fun ρ L => (asB (f ρ L)).bind fun c L1 => if c = true then .ok (.bl true) L1 else g ρ L1
theorem se_one {op} (h : SE S W a fa) : SE S W (.BoolOp op [a] pos) fa := fun X hX => pe_one (h X hX)
theorem se_and (ha : SE S W a fa) (hb : SE S W (.BoolOp .And (b :: rest) pos) fb) : SE S W (.BoolOp .And (a :: b :: rest) pos) (eAndF fa fb) := fun X h =>
  PE.imp (pe_and (ha X h) (hb X h)) fun σ H Q ⟨w, ρ, L, R, e, p⟩ => ⟨w, ρ, L, R, e, (Post.asB (Post.bind (rel := eqR) p)).imp (fun x H1 ⟨k, hk, w1, d, L1, l1, R1, d1, p1⟩ => by
    cases d1
    refine ⟨k, hk, ?_⟩
    cases k with
    | true => exact ⟨w1, ρ, L1, R1, e.le l1, p1⟩
    | false => exact Post.ok p1 (Wd.le.refl _) R1 (.bl false)) fun _ _ _ z => z⟩
theorem se_or (ha : SE S W a fa) (hb : SE S W (.BoolOp .Or (b :: rest) pos) fb) : SE S W (.BoolOp .Or (a :: b :: rest) pos) (eOrF fa fb) := fun X h =>
  PE.imp (pe_or (ha X h) (hb X h)) fun σ H Q ⟨w, ρ, L, R, e, p⟩ => ⟨w, ρ, L, R, e, (Post.asB (Post.bind (rel := eqR) p)).imp (fun x H1 ⟨k, hk, w1, d, L1, l1, R1, d1, p1⟩ => by
    cases d1
    refine ⟨k, hk, ?_⟩
    cases k with
    | true => exact Post.ok p1 (Wd.le.refl _) R1 (.bl true)
    | false => exact ⟨w1, ρ, L1, R1, e.le l1, p1⟩) fun _ _ _ z => z⟩
def eNotF (f : EF) : EF := fun ρ L => (asB (f ρ L)).bind fun c L1 => .ok (.bl (!c)) L1
theorem se_not (ha : SE S W a fa) : SE S W (.UnaryOp .Not a pos) (eNotF fa) := fun X h =>
  PE.imp (pe_not (ha X h)) fun σ H Q ⟨w, ρ, L, R, e, p⟩ => ⟨w, ρ, L, R, e, (Post.asB (Post.bind (rel := eqR) p)).imp (fun x H1 ⟨k, hk, w1, d, L1, l1, R1, d1, p1⟩ => by
    cases d1
    exact ⟨k, hk, Post.ok p1 (Wd.le.refl _) R1 (.bl _)⟩) fun _ _ _ z => z⟩
/-! ### arguments -/
def aNil : AF := fun _ L => .ok [] L
def aCons (f : EF) (g : AF) : AF := fun ρ L => (f ρ L).bind fun d L1 => (g ρ L1).bind fun ds L2 => .ok (d :: ds) L2
end
end DS
set_option Elab.async false
set_option linter.all false
set_option maxRecDepth 100000
set_option maxHeartbeats 4000000
namespace DS
open PySem PySem.Spec L2
open PyProof.Rows hiding St

/-! ### what names boxes below n alone -/
mutual
def D.bel (n : Nat) : D → Bool
  | .non => true | .bl _ => true | .int _ => true | .str _ => true | .fn _ => true | .ty _ => true
  | .tup xs => belL n xs
  | .tg xs => belL n xs
  | .lst xs => belL n xs
  | .ro xs => belL n xs
  | .dK kvs => belK n kvs
  | .dT kvs => belT n kvs
  | .ins _ fs => belF n fs
  | .loc m => decide (m < n)
def belL (n : Nat) : List D → Bool
  | [] => true
  | d :: ds => d.bel n && belL n ds
def belK (n : Nat) : List (Key × D) → Bool
  | [] => true
  | (_, d) :: ds => d.bel n && belK n ds
def belT (n : Nat) : List (List Key × D) → Bool
  | [] => true
  | (_, d) :: ds => d.bel n && belT n ds
def belF (n : Nat) : List (Str × D) → Bool
  | [] => true
  | (_, d) :: ds => d.bel n && belF n ds
end
theorem and2 {a b : Bool} (h : (a && b) = true) : a = true ∧ b = true := Bool.and_eq_true_iff.mp h
theorem and2' {a b : Bool} (h : a = true) (k : b = true) : (a && b) = true := Bool.and_eq_true_iff.mpr ⟨h, k⟩
mutual
theorem Den.bel {G : Gb} {w : Wd} : ∀ {v : V} {d : D}, Den G w v d → d.bel w.φ.length = true
  | _, _, .non => rfl
  | _, _, .bl _ => rfl
  | _, _, .int _ => rfl
  | _, _, .str _ => rfl
  | _, _, .fn _ _ => rfl
  | _, _, .ty _ => rfl
  | _, _, .tup _ r => DenL.bel r
  | _, _, .tg _ r => DenL.bel r
  | _, _, .lst _ r => DenL.bel r
  | _, _, .ro _ r => DenL.bel r
  | _, _, .dK _ r => DenK.bel r
  | _, _, .dT _ r => DenT.bel r
  | _, _, .ins _ _ r => DenF.bel r
  | _, _, .loc e => decide_eq_true (getElem?_lt e)
theorem DenL.bel {G : Gb} {w : Wd} : ∀ {v : List V} {d : List D}, DenL G w v d → belL w.φ.length d = true
  | _, _, .nil => rfl
  | _, _, .cons a t => and2' (Den.bel a) (DenL.bel t)
theorem DenK.bel {G : Gb} {w : Wd} : ∀ {v : List (Key × V)} {d : List (Key × D)}, DenK G w v d → belK w.φ.length d = true
  | _, _, .nil => rfl
  | _, _, .cons a t => and2' (Den.bel a) (DenK.bel t)
theorem DenT.bel {G : Gb} {w : Wd} : ∀ {v : List (List Key × V)} {d : List (List Key × D)}, DenT G w v d → belT w.φ.length d = true
  | _, _, .nil => rfl
  | _, _, .cons a t => and2' (Den.bel a) (DenT.bel t)
theorem DenF.bel {G : Gb} {w : Wd} : ∀ {v : List (Str × V)} {d : List (Str × D)}, DenF G w v d → belF w.φ.length d = true
  | _, _, .nil => rfl
  | _, _, .cons a t => and2' (Den.bel a) (DenF.bel t)
end
theorem BoxD.bel {G : Gb} {w : Wd} {o : HO} {d : D} : BoxD G w o d → d.bel w.φ.length = true
  | .lst r => r.bel
  | .dK r => r.bel
  | .dT r => r.bel
  | .ins _ r => r.bel
/-- w2 has the first n boxes of w1, and all that is frozen there -/
structure Cut (w1 w2 : Wd) (n : Nat) : Prop where
  sub : ∀ a u, HO.thaw u → Rd w1.F a u → Rd w2.F a u
  φ : w2.φ = w1.φ.take n
  dir : ∀ a u, w1.F a = some u → w2.F a = some u
mutual
theorem Den.cut {G : Gb} {w1 w2 : Wd} {n : Nat} (c : Cut w1 w2 n) : ∀ {v : V} {d : D}, Den G w1 v d → d.bel n = true → Den G w2 v d
  | _, _, .non, _ => .non
  | _, _, .bl b, _ => .bl b
  | _, _, .int i, _ => .int i
  | _, _, .str s, _ => .str s
  | _, _, .fn e r, _ => .fn e r
  | _, _, .ty n, _ => .ty n
  | _, _, .tg h r, b => .tg (h.mono fun u e => c.dir _ _ e) (DenL.cut c r b)
  | _, _, .tup h r, b => .tup (h.elim (fun h => .inl (c.sub _ _ trivial h)) .inr) (DenL.cut c r b)
  | _, _, .lst h r, b => .lst (c.dir _ _ h) (DenL.cut c r b)
  | _, _, .ro h r, b => .ro (h.elim (fun h => .inl (c.sub _ _ trivial h)) .inr) (DenL.cut c r b)
  | _, _, .dK h r, b => .dK (c.dir _ _ h) (DenK.cut c r b)
  | _, _, .dT h r, b => .dT (c.dir _ _ h) (DenT.cut c r b)
  | _, _, .ins h m r, b => .ins (c.dir _ _ h) m (DenF.cut c r b)
  | _, _, .loc e, b => .loc (by rw [c.φ, List.getElem?_take_of_lt (of_decide_eq_true b)]; exact e)
theorem DenL.cut {G : Gb} {w1 w2 : Wd} {n : Nat} (c : Cut w1 w2 n) : ∀ {v : List V} {d : List D}, DenL G w1 v d → belL n d = true → DenL G w2 v d
  | _, _, .nil, _ => .nil
  | _, _, .cons a t, b => .cons (Den.cut c a (and2 b).1) (DenL.cut c t (and2 b).2)
theorem DenK.cut {G : Gb} {w1 w2 : Wd} {n : Nat} (c : Cut w1 w2 n) : ∀ {v : List (Key × V)} {d : List (Key × D)}, DenK G w1 v d → belK n d = true → DenK G w2 v d
  | _, _, .nil, _ => .nil
  | _, _, .cons a t, b => .cons (Den.cut c a (and2 b).1) (DenK.cut c t (and2 b).2)
theorem DenT.cut {G : Gb} {w1 w2 : Wd} {n : Nat} (c : Cut w1 w2 n) : ∀ {v : List (List Key × V)} {d : List (List Key × D)}, DenT G w1 v d → belT n d = true → DenT G w2 v d
  | _, _, .nil, _ => .nil
  | _, _, .cons a t, b => .cons (Den.cut c a (and2 b).1) (DenT.cut c t (and2 b).2)
theorem DenF.cut {G : Gb} {w1 w2 : Wd} {n : Nat} (c : Cut w1 w2 n) : ∀ {v : List (Str × V)} {d : List (Str × D)}, DenF G w1 v d → belF n d = true → DenF G w2 v d
  | _, _, .nil, _ => .nil
  | _, _, .cons a t, b => .cons (Den.cut c a (and2 b).1) (DenF.cut c t (and2 b).2)
end
theorem BoxD.cut {G : Gb} {w1 w2 : Wd} {n : Nat} (c : Cut w1 w2 n) {o : HO} {d : D} : BoxD G w1 o d → d.bel n = true → BoxD G w2 o d
  | .lst r, b => .lst (r.cut c b)
  | .dK r, b => .dK (r.cut c b)
  | .dT r, b => .dT (r.cut c b)
  | .ins m r, b => .ins m (r.cut c b)

/-! ### boxes made values, where a def is left -/
def mapO {α β : Type} (f : α → Option β) : List α → Option (List β)
  | [] => some []
  | a :: as => match f a, mapO f as with
    | some b, some bs => some (b :: bs)
    | _, _ => none
def frz (L : Sto) (n : Nat) : Nat → D → Option D
  | k, d => if d.bel n = true then some d else match k with
    | 0 => none
    | k + 1 => match d with
      | .loc m => (match L[m]? with
        | some c => frz L n k c
        | none => none)
      | .tup xs => (mapO (frz L n k) xs).map .tup
      | .tg xs => (mapO (frz L n k) xs).map .tg
      | .lst xs => (mapO (frz L n k) xs).map .lst
      | .dK kvs => (mapO (fun p => (frz L n k p.2).map fun d => (p.1, d)) kvs).map .dK
      | .dT kvs => (mapO (fun p => (frz L n k p.2).map fun d => (p.1, d)) kvs).map .dT
      | .ins c fs => (mapO (fun p => (frz L n k p.2).map fun d => (p.1, d)) fs).map (.ins c)
      | _ => none
theorem frz_bel {L : Sto} {n k : Nat} {d : D} (h : d.bel n = true) : frz L n k d = some d := by
  unfold frz; rw [if_pos h]
/-- all boxes from n on are frozen in w2 -/
structure Fz (G : Gb) (w1 w2 : Wd) (n : Nat) (H : Hp) : Prop where
  cut : Cut w1 w2 n
  box : ∀ (m : Nat) (a : Addr) (o : HO), n ≤ m → w1.φ[m]? = some a → H a = some o → w2.F a = some o
theorem mapO_nil {α β : Type} {f : α → Option β} : mapO f [] = some [] := rfl
theorem mapO_cons {α β : Type} {f : α → Option β} {a : α} {as : List α} {r : List β} (h : mapO f (a :: as) = some r) : ∃ b bs, f a = some b ∧ mapO f as = some bs ∧ r = b :: bs := by
  unfold mapO at h
  split at h
  · rename_i b bs h1 h2
    cases h
    exact ⟨b, bs, h1, h2, rfl⟩
  · cases h
theorem mapO_imp {α β : Type} {f g : α → Option β} (h : ∀ a b, f a = some b → g a = some b) : ∀ {l : List α} {r : List β}, mapO f l = some r → mapO g l = some r
  | [], _, e => e
  | a :: as, _, e => by
    obtain ⟨b, bs, h1, h2, rfl⟩ := mapO_cons e
    have h3 := h a b h1
    have h4 := mapO_imp h h2
    unfold mapO
    rw [h3, h4]
theorem frz_mono {L : Sto} {n : Nat} : ∀ (k : Nat) (d d' : D), frz L n k d = some d' → frz L n (k + 1) d = some d' := by
  intro k
  induction k with
  | zero =>
    intro d d' y
    unfold frz at y
    split at y
    · rename_i b; cases y; exact frz_bel b
    · cases y
  | succ k ihk =>
    intro d d' y
    have mm : ∀ {κ : Type} (p : κ × D) (b : κ × D), ((frz L n k p.2).map fun d => (p.1, d)) = some b → ((frz L n (k + 1) p.2).map fun d => (p.1, d)) = some b := fun p b h => by
      obtain ⟨d, h3, rfl⟩ := Option.map_eq_some_iff.mp h
      rw [ihk _ _ h3] <;> rfl
    unfold frz at y
    split at y
    · rename_i b
      cases y
      exact frz_bel b
    · rename_i nb
      unfold frz
      rw [if_neg nb]
      cases d with
      | loc m =>
        dsimp only at y ⊢
        split at y
        · exact ihk _ _ y
        · cases y
      | tup xs =>
        obtain ⟨ys, h1, rfl⟩ := Option.map_eq_some_iff.mp y
        dsimp only
        rw [mapO_imp ihk h1] <;> rfl
      | lst xs =>
        obtain ⟨ys, h1, rfl⟩ := Option.map_eq_some_iff.mp y
        dsimp only
        rw [mapO_imp ihk h1] <;> rfl
      | tg xs =>
        obtain ⟨ys, h1, rfl⟩ := Option.map_eq_some_iff.mp y
        dsimp only
        rw [mapO_imp ihk h1] <;> rfl
      | dK xs =>
        obtain ⟨ys, h1, rfl⟩ := Option.map_eq_some_iff.mp y
        dsimp only
        rw [mapO_imp mm h1] <;> rfl
      | dT xs =>
        obtain ⟨ys, h1, rfl⟩ := Option.map_eq_some_iff.mp y
        dsimp only
        rw [mapO_imp mm h1] <;> rfl
      | ins c xs =>
        obtain ⟨ys, h1, rfl⟩ := Option.map_eq_some_iff.mp y
        dsimp only
        rw [mapO_imp mm h1] <;> rfl
      | _ => cases y
section
variable {G : Gb} {w1 w2 : Wd} {n k : Nat} {L : Sto} {H : Hp}
theorem frzL (ih : ∀ v d d', Den G w1 v d → frz L n k d = some d' → Den G w2 v d') : ∀ {vs : List V} {ds ds' : List D}, DenL G w1 vs ds → mapO (frz L n k) ds = some ds' → DenL G w2 vs ds'
  | _, _, _, .nil, e => by cases e; exact .nil
  | _, _, _, .cons a t, e => by
    obtain ⟨b, bs, h1, h2, rfl⟩ := mapO_cons e
    exact .cons (ih _ _ _ a h1) (frzL ih t h2)
theorem frzK (ih : ∀ v d d', Den G w1 v d → frz L n k d = some d' → Den G w2 v d') : ∀ {vs : List (Key × V)} {ds ds' : List (Key × D)}, DenK G w1 vs ds → mapO (fun p => (frz L n k p.2).map fun d => (p.1, d)) ds = some ds' → DenK G w2 vs ds'
  | _, _, _, .nil, e => by cases e; exact .nil
  | _, _, _, .cons a t, e => by
    obtain ⟨b, bs, h1, h2, rfl⟩ := mapO_cons e
    obtain ⟨d, h3, rfl⟩ := Option.map_eq_some_iff.mp h1
    exact .cons (ih _ _ _ a h3) (frzK ih t h2)
theorem frzT (ih : ∀ v d d', Den G w1 v d → frz L n k d = some d' → Den G w2 v d') : ∀ {vs : List (List Key × V)} {ds ds' : List (List Key × D)}, DenT G w1 vs ds → mapO (fun p => (frz L n k p.2).map fun d => (p.1, d)) ds = some ds' → DenT G w2 vs ds'
  | _, _, _, .nil, e => by cases e; exact .nil
  | _, _, _, .cons a t, e => by
    obtain ⟨b, bs, h1, h2, rfl⟩ := mapO_cons e
    obtain ⟨d, h3, rfl⟩ := Option.map_eq_some_iff.mp h1
    exact .cons (ih _ _ _ a h3) (frzT ih t h2)
theorem frzF (ih : ∀ v d d', Den G w1 v d → frz L n k d = some d' → Den G w2 v d') : ∀ {vs : List (Str × V)} {ds ds' : List (Str × D)}, DenF G w1 vs ds → mapO (fun p => (frz L n k p.2).map fun d => (p.1, d)) ds = some ds' → DenF G w2 vs ds'
  | _, _, _, .nil, e => by cases e; exact .nil
  | _, _, _, .cons a t, e => by
    obtain ⟨b, bs, h1, h2, rfl⟩ := mapO_cons e
    obtain ⟨d, h3, rfl⟩ := Option.map_eq_some_iff.mp h1
    exact .cons (ih _ _ _ a h3) (frzF ih t h2)
theorem frz_den (R : Rel G w1 L H) (F : Fz G w1 w2 n H) : ∀ (k : Nat) (v : V) (d d' : D), Den G w1 v d → frz L n k d = some d' → Den G w2 v d' := by
  intro k
  induction k with
  | zero =>
    intro v d d' h e
    unfold frz at e
    split at e
    · rename_i b; cases e; exact h.cut F.cut b
    · cases e
  | succ k ih =>
    intro v d d' h e
    unfold frz at e
    split at e
    · rename_i b; cases e; exact h.cut F.cut b
    · rename_i nb
      cases h with
      | loc q =>
        rename_i m a
        have hm : n ≤ m := by
          have := nb
          simp only [D.bel, decide_eq_true_eq] at this
          omega
        dsimp only at e
        split at e
        · rename_i c hc
          obtain ⟨o, h1, h2⟩ := R.box m a c q hc
          have h3 := F.box m a o hm q h1
          -- the content, frozen
          have hd : ∀ d', frz L n k c = some d' → Den G w2 (.ref a) d' := by
            intro d' e'
            cases k with
            | zero =>
              unfold frz at e'
              split at e'
              · rename_i b
                cases e'
                cases h2 with
                | lst r => exact .lst h3 (r.cut F.cut b)
                | dK r => exact .dK h3 (r.cut F.cut b)
                | dT r => exact .dT h3 (r.cut F.cut b)
                | ins m r => exact .ins h3 m (r.cut F.cut b)
              · cases e'
            | succ k =>
              have ih' : ∀ v d d', Den G w1 v d → frz L n k d = some d' → Den G w2 v d' := fun v d d' x y => ih v d d' x (frz_mono k d d' y)
              unfold frz at e'
              split at e'
              · rename_i b
                cases e'
                cases h2 with
                | lst r => exact .lst h3 (r.cut F.cut b)
                | dK r => exact .dK h3 (r.cut F.cut b)
                | dT r => exact .dT h3 (r.cut F.cut b)
                | ins m r => exact .ins h3 m (r.cut F.cut b)
              · cases h2 with
                | lst r => obtain ⟨ys, y1, rfl⟩ := Option.map_eq_some_iff.mp e'; exact .lst h3 (frzL ih' r y1)
                | dK r => obtain ⟨ys, y1, rfl⟩ := Option.map_eq_some_iff.mp e'; exact .dK h3 (frzK ih' r y1)
                | dT r => obtain ⟨ys, y1, rfl⟩ := Option.map_eq_some_iff.mp e'; exact .dT h3 (frzT ih' r y1)
                | ins m r => obtain ⟨ys, y1, rfl⟩ := Option.map_eq_some_iff.mp e'; exact .ins h3 m (frzF ih' r y1)
          exact hd _ e
        · cases e
      | tg s r => obtain ⟨ys, y1, rfl⟩ := Option.map_eq_some_iff.mp e; exact .tg (s.mono fun u e => F.cut.dir _ _ e) (frzL ih r y1)
      | tup s r => obtain ⟨ys, y1, rfl⟩ := Option.map_eq_some_iff.mp e; exact .tup (s.elim (fun h => .inl (F.cut.sub _ _ trivial h)) .inr) (frzL ih r y1)
      | lst s r => obtain ⟨ys, y1, rfl⟩ := Option.map_eq_some_iff.mp e; exact .lst (F.cut.dir _ _ s) (frzL ih r y1)
      | dK s r => obtain ⟨ys, y1, rfl⟩ := Option.map_eq_some_iff.mp e; exact .dK (F.cut.dir _ _ s) (frzK ih r y1)
      | dT s r => obtain ⟨ys, y1, rfl⟩ := Option.map_eq_some_iff.mp e; exact .dT (F.cut.dir _ _ s) (frzT ih r y1)
      | ins s m r => obtain ⟨ys, y1, rfl⟩ := Option.map_eq_some_iff.mp e; exact .ins (F.cut.dir _ _ s) m (frzF ih r y1)
      | ro s r => cases e
      | _ => exact absurd rfl nb
end

/-! ### where a def is left: its own boxes go -/
def TakeOk (L0 L : Sto) : Prop := L0.length ≤ L.length ∧ ∀ (n : Nat) (c : D), n < L0.length → L[n]? = some c → L0[n]? = some c ∨ c.bel L0.length = true
open Classical in
noncomputable def dropR (L0 : Sto) (r : Res D) : Res D := match r with
  | .ok d L => if TakeOk L0 L then (match frz L L0.length 12 d with
    | some d' => .ok d' (L.take L0.length)
    | none => .bad) else .bad
  | .err c p L => if TakeOk L0 L then (if belF L0.length p = true then .err c p (L.take L0.length) else .bad) else .bad
  | .bad => .bad
theorem dropR_ok {L0 L : Sto} {d d' : D} (h : TakeOk L0 L) (e : frz L L0.length 12 d = some d') : dropR L0 (.ok d L) = .ok d' (L.take L0.length) := by
  unfold dropR; dsimp only; rw [if_pos h, e]
theorem dropR_err {L0 L : Sto} {c : Str} {p : List (Str × D)} (h : TakeOk L0 L) (e : belF L0.length p = true) : dropR L0 (.err c p L) = .err c p (L.take L0.length) := by
  unfold dropR; dsimp only; rw [if_pos h, if_pos e]
section
variable {G : Gb} {w w1 : Wd} {L0 L : Sto} {H H1 : Hp}
/-- the world behind -/
def cutW (w1 : Wd) (n : Nat) (H : Hp) : Wd := ⟨fun a => if a ∈ w1.φ.drop n then H a else w1.F a, w1.φ.take n, w1.prv⟩
theorem cut_rel (R0 : Rel G w L0 H) (l : w.le w1) (R : Rel G w1 L H1) (t : TakeOk L0 L) : w.le (cutW w1 L0.length H1) ∧ Rel G (cutW w1 L0.length H1) (L.take L0.length) H1 ∧ Fz G w1 (cutW w1 L0.length H1) L0.length H1 := by
  have out : ∀ a u, w1.F a = some u → a ∉ w1.φ.drop L0.length := fun a u e hm => by
    rw [R.free a (List.mem_of_mem_drop hm)] at e; cases e
  have sub : ∀ a u, HO.thaw u → Rd w1.F a u → Rd (cutW w1 L0.length H1).F a u := fun a u _ r => by
    rcases r with r | ⟨o, r⟩
    · exact .inl ((if_neg (out a _ r)).trans r)
    · exact .inr ⟨o, (if_neg (out a _ r)).trans r⟩
  have dir : ∀ a vs, w1.F a = some vs → (cutW w1 L0.length H1).F a = some vs := fun a vs r => (if_neg (out a _ r)).trans r
  have c : Cut w1 (cutW w1 L0.length H1) L0.length := ⟨sub, rfl, dir⟩
  refine ⟨⟨⟨fun a u th r => sub a u th (l.sub a u th r), fun n a e => ?_, fun a vs r => dir a vs (l.dir a vs r)⟩, l.same⟩, ⟨fun a u e => ?_, ?_, ?_, fun a ha => ?_, fun n a x e1 e2 => ?_, fun a u e => ?_⟩, c, fun m a o hm e h => ?_⟩
  · have hn : n < L0.length := by rw [← R0.len]; exact getElem?_lt e
    show (w1.φ.take L0.length)[n]? = some a
    rw [List.getElem?_take_of_lt hn]; exact l.pre n a e
  · have e' : (if a ∈ w1.φ.drop L0.length then H1 a else w1.F a) = some u := e
    split at e'
    · exact e'
    · exact R.sub _ _ e'
  · show (w1.φ.take L0.length).length = _
    rw [List.length_take, List.length_take, R.len]
  · exact R.nd.sublist (List.take_sublist _ _)
  · have ha' : a ∈ w1.φ.take L0.length := ha
    have nd := R.nd
    have : a ∉ w1.φ.drop L0.length := fun hm => by
      rw [← List.take_append_drop L0.length w1.φ, List.nodup_append] at nd
      exact nd.2.2 a ha' a hm rfl
    exact (if_neg this).trans (R.free a (List.mem_of_mem_take ha'))
  · have e1' : (w1.φ.take L0.length)[n]? = some a := e1
    have hn : n < L0.length := by
      have := getElem?_lt e1'
      rw [List.length_take] at this; omega
    rw [List.getElem?_take_of_lt hn] at e1' e2
    obtain ⟨o, h1, h2⟩ := R.box n a x e1' e2
    refine ⟨o, h1, h2.cut c ?_⟩
    rcases t.2 n x hn e2 with q | q
    · have hw : ∃ b, w.φ[n]? = some b := ⟨w.φ[n]'(by rw [R0.len]; exact hn), List.getElem?_eq_getElem _⟩
      obtain ⟨b, hb⟩ := hw
      obtain ⟨o0, _, h3⟩ := R0.box n b x hb q
      have := h3.bel
      rw [R0.len] at this; exact this
    · exact q
  · obtain ⟨k1, k2, k3⟩ := R.prv a u e
    exact ⟨k1, (if_neg (fun hm => k3 (List.mem_of_mem_drop hm))).trans k2, fun hm => k3 (List.mem_of_mem_take hm)⟩
  · have hm' : a ∈ w1.φ.drop L0.length := by
      refine List.mem_of_getElem? (i := m - L0.length) ?_
      rw [List.getElem?_drop, Nat.add_sub_cancel' hm]; exact e
    exact (if_pos hm').trans h
theorem Post.drop (R0 : Rel G w L0 H) {r : Res D} {Q : VK} {E : XK} (p : Post G (Den G) w (dropR L0 r) Q E) : Post G (Den G) w r Q E := by
  cases r with
  | bad => exact p
  | ok d L =>
    unfold dropR at p
    dsimp only at p
    split at p
    · rename_i t
      split at p
      · rename_i d' hd
        intro w1 H1 v l R h
        obtain ⟨a, b, c⟩ := cut_rel R0 l R t
        exact p _ H1 v a b (frz_den R c 12 v d d' h hd)
      · exact p.elim
    · exact p.elim
  | err x q L =>
    unfold dropR at p
    dsimp only at p
    split at p
    · rename_i t
      split at p
      · rename_i hb
        intro w1 H1 dx l R h C m
        obtain ⟨a, b, c⟩ := cut_rel R0 l R t
        refine p _ H1 dx a b ?_ C m
        rcases h with h | ⟨ad, fs, h1, h2, h3⟩
        · exact .inl h
        · refine .inr ⟨ad, fs, h1, ?_, h3.cut c.cut hb⟩
          have : ad ∉ w1.φ.drop L0.length := fun hm => by rw [R.free ad (List.mem_of_mem_drop hm)] at h2; cases h2
          exact (if_neg this).trans h2
      · exact p.elim
    · exact p.elim
end
end DS
set_option Elab.async false
set_option linter.all false
set_option maxRecDepth 100000
set_option maxHeartbeats 4000000
namespace DS
open PySem PySem.Spec L2
open PyProof.Rows hiding St

section
variable {S : Sc} {W : WX} {a b e c : Expr} {es : List Expr} {fa fb f : EF} {pos : Pos}
/-! ### arguments -/
theorem sa_nil : SA S W [] aNil := fun X h => PA.imp pa_nil fun σ H Q ⟨w, ρ, L, R, e, p⟩ => Post.ok p (Wd.le.refl w) R .nil
theorem sa_cons {g : AF} (ha : SE S W e f) (hr : SA S W es g) (hs : ∀ env, starEach (e :: es) env = (false, eval e env) :: starEach es env := by intro _; rfl) : SA S W (e :: es) (aCons f g) := fun X h =>
  PA.imp (pa_cons (ha X h) (hr X h) (hs _)) fun σ H Q ⟨w, ρ, L, R, e, p⟩ => ⟨w, ρ, L, R, e, (Post.bind (rel := Den S.g) p).imp (fun x H1 ⟨w1, d, L1, l1, R1, d1, p1⟩ =>
    ⟨w1, ρ, L1, R1, e.le l1, (Post.bind (rel := DenL S.g) p1).imp (fun xs H2 ⟨w2, ds, L2, l2, R2, d2, p2⟩ => Post.ok p2 (Wd.le.refl _) R2 (.cons (d1.le l2) d2)) fun _ _ _ z => z⟩) fun _ _ _ z => z⟩

/-! ### statements -/
/-- from a value on -/
def sBind (r : Res D) (ρ : Env') (k : D → Sto → SRes) : SRes := match r with
  | .ok d L => k d L
  | .err c p L => .err c p ρ L
  | .bad => .bad
def sBindB (r : Res Bool) (ρ : Env') (k : Bool → Sto → SRes) : SRes := match r with
  | .ok d L => k d L
  | .err c p L => .err c p ρ L
  | .bad => .bad
@[simp] theorem sBind_ok (d : D) (L : Sto) (ρ : Env') (k : D → Sto → SRes) : sBind (.ok d L) ρ k = k d L := rfl
@[simp] theorem sBind_err (c : Str) (p : List (Str × D)) (L : Sto) (ρ : Env') (k : D → Sto → SRes) : sBind (.err c p L) ρ k = .err c p ρ L := rfl
@[simp] theorem sBind_bad (ρ : Env') (k : D → Sto → SRes) : sBind .bad ρ k = .bad := rfl
@[simp] theorem sBindB_ok (d : Bool) (L : Sto) (ρ : Env') (k : Bool → Sto → SRes) : sBindB (.ok d L) ρ k = k d L := rfl
@[simp] theorem sBindB_err (c : Str) (p : List (Str × D)) (L : Sto) (ρ : Env') (k : Bool → Sto → SRes) : sBindB (.err c p L) ρ k = .err c p ρ L := rfl
@[simp] theorem sBindB_bad (ρ : Env') (k : Bool → Sto → SRes) : sBindB .bad ρ k = .bad := rfl
theorem PostS.bind {G : Gb} {w : Wd} {r : Res D} {ρ : Env'} {σ : St} {k : D → Sto → SRes} {E : Ends} (e : EnvR G w σ ρ) (p : PostS G w (sBind r ρ k) E W) :
    Post G (Den G) w r (fun v H => ∃ w' d L, w.le w' ∧ Rel G w' L H ∧ Den G w' v d ∧ PostS G w' (k d L) E W) (fun c dx H => W c dx σ H) := by
  cases r with
  | ok d L => exact fun w2 H v l R h => ⟨w2, d, L, l, R, h, PostS.le l p⟩
  | err c q L => exact fun w2 H dx l R x C m => p w2 σ H dx l R (e.le l) x C m
  | bad => exact p
theorem PostS.bindB {G : Gb} {w : Wd} {r : Res Bool} {ρ : Env'} {σ : St} {k : Bool → Sto → SRes} {E : Ends} (e : EnvR G w σ ρ) (p : PostS G w (sBindB r ρ k) E W) :
    Post G eqR w r (fun v H => ∃ w' L, w.le w' ∧ Rel G w' L H ∧ PostS G w' (k v L) E W) (fun c dx H => W c dx σ H) := by
  cases r with
  | ok d L => intro w2 H v l R h; cases h; exact ⟨w2, L, l, R, PostS.le l p⟩
  | err c q L => exact fun w2 H dx l R x C m => p w2 σ H dx l R (e.le l) x C m
  | bad => exact p
def sSkip : SF := fun ρ L => .nx ρ L
def sSeq (f g : SF) : SF := fun ρ L => match f ρ L with
  | .nx ρ L => g ρ L
  | r => r
variable {st : Stmt} {rest body orelse : List Stmt} {g g1 g2 : SF}
theorem ss_nil : SSs S W [] sSkip := fun X h => PSs.imp pss_nil fun D σ H ⟨w, ρ, L, R, e, p⟩ => p w σ H (Wd.le.refl w) R e
theorem ss_one (h1 : SS S W st g) : SSs S W [st] g := fun X h => pss_one (h1 X h)
theorem ss_cons (h1 : SS S W st g1) (h2 : SSs S W rest g2) : SSs S W (st :: rest) (sSeq g1 g2) := fun X h =>
  PSs.imp (pss_cons (h1 X h) (h2 X h)) fun D σ H ⟨w, ρ, L, R, e, p⟩ => by
    refine ⟨w, ρ, L, R, e, ?_⟩
    unfold sSeq at p
    cases q : g1 ρ L with
    | nx ρ1 L1 =>
      rw [q] at p
      exact fun w1 σ1 H1 l1 R1 e1 => ⟨w1, ρ1, L1, R1, e1, PostS.le l1 p⟩
    | rt d L1 => rw [q] at p; exact p
    | bk ρ1 L1 => rw [q] at p; exact p
    | ct ρ1 L1 => rw [q] at p; exact p
    | err c x ρ1 L1 => rw [q] at p; exact p
    | bad => rw [q] at p; exact p
theorem ss_pass : SS S W (.Pass pos) sSkip := fun X h => PS.imp ps_pass fun D σ H ⟨w, ρ, L, R, e, p⟩ => p w σ H (Wd.le.refl w) R e
def sBreak : SF := fun ρ L => .bk ρ L
def sCont : SF := fun ρ L => .ct ρ L
theorem ss_break : SS S W (.Break pos) sBreak := fun X h => PS.imp ps_break fun D σ H ⟨w, ρ, L, R, e, p⟩ => p w σ H (Wd.le.refl w) R e
theorem ss_continue : SS S W (.Continue pos) sCont := fun X h => PS.imp ps_continue fun D σ H ⟨w, ρ, L, R, e, p⟩ => p w σ H (Wd.le.refl w) R e
def sExpr (f : EF) : SF := fun ρ L => sBind (f ρ L) ρ fun _ L1 => .nx ρ L1
theorem ss_expr (he : SE S W e f) (hs : ∀ env, swapsWith e none pos.line env = pure false := by intro _; rfl) : SS S W (.Expr e pos) (sExpr f) := fun X h =>
  PS.imp (ps_expr (he X h) (hs _)) fun D σ H ⟨w, ρ, L, R, e, p⟩ => ⟨w, ρ, L, R, e, (PostS.bind e p).imp (fun v H1 ⟨w1, d, L1, l1, R1, d1, p1⟩ => p1 w1 σ H1 (Wd.le.refl _) R1 (e.le l1)) fun _ _ _ z => z⟩
def sRet (f : EF) : SF := fun ρ L => sBind (f ρ L) ρ fun d L1 => .rt d L1
theorem ss_ret (he : SE S W e f) : SS S W (.Return (some e) pos) (sRet f) := fun X h =>
  PS.imp (ps_ret (he X h)) fun D σ H ⟨w, ρ, L, R, e, p⟩ => ⟨w, ρ, L, R, e, (PostS.bind e p).imp (fun v H1 ⟨w1, d, L1, l1, R1, d1, p1⟩ => p1 w1 v H1 (Wd.le.refl _) R1 d1) fun _ _ _ z => z⟩
def sRetN : SF := fun ρ L => .rt .non L
theorem ss_retN : SS S W (.Return none pos) sRetN := fun X h => PS.imp ps_retN fun D σ H ⟨w, ρ, L, R, e, p⟩ => p w .non H (Wd.le.refl w) R .non
def sIf (t : TF) (f g : SF) : SF := fun ρ L => sBindB (t ρ L) ρ fun k L1 => if k = true then f ρ L1 else g ρ L1
theorem ss_if {t : TF} (hc : ST S W c t) (ha : SSs S W body g1) (hb : SSs S W orelse g2) : SS S W (.If c body orelse pos) (sIf t g1 g2) := fun X h =>
  PS.imp (ps_if (hc X h) (ha X h) (hb X h)) fun D σ H ⟨w, ρ, L, R, e, p⟩ => ⟨w, ρ, L, R, e, (PostS.bindB e p).imp (fun k H1 ⟨w1, L1, l1, R1, p1⟩ => by
    cases k with
    | true => exact ⟨w1, ρ, L1, R1, e.le l1, p1⟩
    | false => exact ⟨w1, ρ, L1, R1, e.le l1, p1⟩) fun _ _ _ z => z⟩
/-- code that is never come to -/
def sNever : SF := fun _ _ => .bad
theorem ss_never : SS S W st sNever := fun X h => PS.imp ps_never fun D σ H ⟨w, ρ, L, R, e, p⟩ => p
theorem sss_never : SSs S W rest sNever := fun X h => PSs.imp pss_never fun D σ H ⟨w, ρ, L, R, e, p⟩ => p

/-! ### targets -/
def gSet (i : Nat) : GF := fun d ρ => some (ρ.set i (some d))
theorem wipe_get {σ : St} {i : Nat} : ∀ {vs : List Nat}, i ∈ vs → (wipe σ vs)[i]? = (if i < σ.length then some none else none)
  | [], h => by simp at h
  | v :: vs, h => by
    show ((wipe σ vs).set v none)[i]? = _
    by_cases hv : v = i
    · subst hv
      by_cases hl : v < σ.length
      · rw [List.getElem?_set_self (by rw [wipe_length]; exact hl), if_pos hl]
      · rw [List.getElem?_eq_none (by rw [List.length_set, wipe_length]; omega), if_neg hl]
    · have hi : i ∈ vs := by
        rcases List.mem_cons.mp h with e | e
        · exact absurd e.symm hv
        · exact e
      rw [List.getElem?_set_ne hv, wipe_get hi]
theorem wipe_eq {σ τ : St} {vs : List Nat} (hl : σ.length = τ.length) (h : ∀ i, i ∉ vs → σ[i]? = τ[i]?) : wipe σ vs = wipe τ vs := by
  apply List.ext_getElem?
  intro i
  by_cases hi : i ∈ vs
  · rw [wipe_get hi, wipe_get hi, hl]
  · rw [wipe_out hi, wipe_out hi, h i hi]
theorem wipe_set {σ : St} {vs : List Nat} {i : Nat} (hi : i ∈ vs) (x : Option V) : wipe (σ.set i x) vs = wipe σ vs := by
  refine wipe_eq (by rw [List.length_set]) fun j hj => ?_
  have ne : i ≠ j := fun e => hj (by rw [← e]; exact hi)
  exact List.getElem?_set_ne ne
theorem wipe_idem {σ : St} {vs : List Nat} : wipe (wipe σ vs) vs = wipe σ vs := wipe_eq (wipe_length _ _) fun i hi => wipe_out hi
theorem sg_name (i : Nat) {own : List Nat} {x : Str} (hN : S.N.Nodup) (ho : i ∈ own := by decide) (hi : S.N[i]? = some x := by rfl) (hx : Loc S.sc x := by first | exact Or.inl rfl | exact Or.inr rfl) (hf : S.fn x = true ∨ S.sc.names.lookup x = some .local := by first | exact .inl rfl | exact .inr rfl) :
    SG S W own (.Name x pos) (gSet i) := fun X h =>
  PG.imp (pg_name (i := i) (by rw [← h.N]; exact hN) (by rw [← h.N]; exact hi) (by rw [← h.sc]; exact hx) (by rw [← h.fn, ← h.sc]; exact hf)) fun v σ H Q ⟨w, ρ, L, d, ρ', R, e, dd, ef, q⟩ => by
    cases ef
    exact q _ (e.set i dd) (wipe_set ho _)
def gsNil : List D → Env' → Option Env' := fun ds ρ => match ds with
  | [] => some ρ
  | _ => none
def gsCons (f : GF) (g : List D → Env' → Option Env') : List D → Env' → Option Env' := fun ds ρ => match ds with
  | [] => none
  | d :: r => (f d ρ).bind (g r)
theorem sgs_nil {own : List Nat} : SGs S W own [] gsNil := fun X h => PGs.imp pgs_nil fun vs σ H Q ⟨w, ρ, L, ds, ρ', R, e, dd, ef, q⟩ => by
  cases dd with
  | nil => cases ef; exact ⟨rfl, q σ e rfl⟩
  | cons _ _ => cases ef
theorem sgs_cons {own : List Nat} {tg : Expr} {tgs : List Expr} {f : GF} {g : List D → Env' → Option Env'} (h1 : SG S W own tg f) (h2 : SGs S W own tgs g)
    (hs : ∀ env, (assignEach (tg :: tgs) env).map (·.2) = assign tg env :: (assignEach tgs env).map (·.2) := by intro _; rfl) : SGs S W own (tg :: tgs) (gsCons f g) := fun X h =>
  PGs.imp (pgs_cons (h1 X h) (h2 X h) (hs _)) fun vs σ H Q ⟨w, ρ, L, ds, ρ', R, e, dd, ef, q⟩ => by
    cases dd with
    | nil => cases ef
    | @cons v d vs ds a t =>
      obtain ⟨ρ1, e1, e2⟩ := Option.bind_eq_some_iff.mp ef
      exact ⟨v, vs, rfl, w, ρ, L, d, ρ1, R, e, a, e1, fun σ' e' hw => ⟨w, ρ1, L, ds, ρ', R, e', t, e2, fun σ2 e3 hw2 => q σ2 e3 (hw2.trans hw)⟩⟩
/-- a tuple's places -/
def gTupF (n : Nat) (g : List D → Env' → Option Env') : GF := fun d ρ => match lo d with
  | .tup ds => if ds.length = n then g ds ρ else none
  | _ => none
theorem DenL.length {G : Gb} {w : Wd} : ∀ {vs : List V} {ds : List D}, DenL G w vs ds → vs.length = ds.length
  | _, _, .nil => rfl
  | _, _, .cons _ t => congrArg Nat.succ (DenL.length t)
theorem sg_tup {own : List Nat} {k n : Nat} {g : List D → Env' → Option Env'} (h1 : SGs S W own es g) (hn : ∀ env, (assignEach es env).length = n := by intro _; rfl) (hst : ∀ env, (assignEach es env).findIdx? (·.1) = none := by intro _; rfl) :
    SG S W own (.Tuple es k pos) (gTupF n g) := fun X h =>
  PG.imp (pg_tup h.calm (h1 X h) (hn _) (hst _)) fun v σ H Q ⟨w, ρ, L, d, ρ', R, e, dd, ef, q⟩ => by
    unfold gTupF at ef
    have dd := dd.lo
    generalize lo d = d' at ef dd
    cases dd with
    | @tup a vs ds s r =>
      dsimp only at ef
      split at ef
      · rename_i hl
        exact ⟨a, vs, rfl, by rw [← h.K]; exact R.sqT s, by rw [r.length, hl], w, ρ, L, ds, ρ', R, e, r, ef, q⟩
      · cases ef
    | _ => cases ef
/-- target = value -/
def sAsg (f : EF) (g : GF) : SF := fun ρ L => sBind (f ρ L) ρ fun d L1 => match g d ρ with
  | some ρ' => .nx ρ' L1
  | none => .bad
theorem ss_asg {own : List Nat} {tg : Expr} {g : GF} (he : SE S W e f) (hg : SG S W own tg g) (hs : ∀ env, swapsWithSole [tg] e pos.line env = pure false := by intro _; rfl) (hw : ∀ env, swappedStores [tg] e env = pure none := by intro _; rfl)
    (h1 : ∀ env, (assignEach [tg] env).map (·.2) = [assign tg env] := by intro _; rfl) : SS S W (.Assign [tg] e pos) (sAsg f g) := fun X h =>
  PS.imp (ps_asg (he X h) (hg X h) (hs _) (hw _) (h1 _)) fun D σ H ⟨w, ρ, L, R, e, p⟩ => ⟨w, ρ, L, R, e, (PostS.bind e p).imp (fun v H1 ⟨w1, d, L1, l1, R1, d1, p1⟩ => by
    split at p1
    · rename_i ρ' eg
      exact ⟨w1, ρ, L1, d, ρ', R1, e.le l1, d1, eg, fun σ' e' _ => p1 w1 σ' H1 (Wd.le.refl _) R1 e'⟩
    · exact p1.elim) fun _ _ _ z => z⟩
/-- name = value -/
def sSet (i : Nat) (f : EF) : SF := fun ρ L => sBind (f ρ L) ρ fun d L1 => .nx (ρ.set i (some d)) L1
theorem ss_set (i : Nat) {x : Str} {pos' : Pos} (hN : S.N.Nodup) (he : SE S W e f) (hi : S.N[i]? = some x := by rfl) (hx : Loc S.sc x := by first | exact Or.inl rfl | exact Or.inr rfl) (hs : ∀ env, swapsWith e (some (.Name x pos')) pos.line env = pure false := by intro _; rfl)
    (hf : S.fn x = true ∨ S.sc.names.lookup x = some .local := by first | exact .inl rfl | exact .inr rfl) : SS S W (.Assign [.Name x pos'] e pos) (sSet i f) := fun X h =>
  PS.imp (ps_set (i := i) (by rw [← h.N]; exact hN) (by rw [← h.N]; exact hi) (by rw [← h.sc]; exact hx) (he X h) (hs _) (by rw [← h.fn, ← h.sc]; exact hf)) fun D σ H ⟨w, ρ, L, R, e, p⟩ => ⟨w, ρ, L, R, e, (PostS.bind e p).imp (fun v H1 ⟨w1, d, L1, l1, R1, d1, p1⟩ =>
    p1 w1 _ H1 (Wd.le.refl _) R1 ((e.le l1).set i d1)) fun _ _ _ z => z⟩

/-! ### loops -/
def sWhileN (t : TF) (body : SF) : Nat → SF
  | 0 => fun _ _ => .bad
  | n + 1 => fun ρ L => sBindB (t ρ L) ρ fun k L1 => if k = true then (match body ρ L1 with
    | .nx ρ2 L2 => sWhileN t body n ρ2 L2
    | .ct ρ2 L2 => sWhileN t body n ρ2 L2
    | .bk ρ2 L2 => .nx ρ2 L2
    | r => r) else .nx ρ L1
theorem ss_while (n : Nat) {t : TF} (hc : ST S W c t) (hb : SSs S W body g) : SS S W (.While c body [] pos) (sWhileN t g n) := fun X h =>
  PS.imp (ps_while h.passes (hc X h) (hb X h)) fun D σ H ⟨w, ρ, L, R, e, p⟩ => by
    refine ⟨fun m σ H => ∃ w ρ L, Rel S.g w L H ∧ EnvR S.g w σ ρ ∧ PostS S.g w (sWhileN t g m ρ L) D W, ⟨n, w, ρ, L, R, e, p⟩, ?_⟩
    rintro m σ H ⟨w, ρ, L, R, e, p⟩
    cases m with
    | zero => exact p.elim
    | succ m =>
      refine ⟨w, ρ, L, R, e, (PostS.bindB e p).imp (fun k H1 ⟨w1, L1, l1, R1, p1⟩ => ?_) fun _ _ _ z => z⟩
      cases k with
      | false => exact p1 w1 σ H1 (Wd.le.refl _) R1 (e.le l1)
      | true =>
        rw [if_pos rfl]
        refine ⟨fun σ H => ∃ w ρ L, Rel S.g w L H ∧ EnvR S.g w σ ρ ∧ PostS S.g w (sWhileN t g m ρ L) D W, fun σ' H' q => ⟨m, Nat.lt_succ_self m, q⟩, w1, ρ, L1, R1, e.le l1, ?_⟩
        rw [if_pos rfl] at p1
        cases q : g ρ L1 with
        | nx ρ2 L2 => rw [q] at p1; exact fun w2 σ2 H2 l2 R2 e2 => ⟨w2, ρ2, L2, R2, e2, PostS.le l2 p1⟩
        | ct ρ2 L2 => rw [q] at p1; exact fun w2 σ2 H2 l2 R2 e2 => ⟨w2, ρ2, L2, R2, e2, PostS.le l2 p1⟩
        | bk ρ2 L2 => rw [q] at p1; exact p1
        | rt d L2 => rw [q] at p1; exact p1
        | err c x ρ2 L2 => rw [q] at p1; exact p1
        | bad => rw [q] at p1; exact p1
end
end DS
set_option Elab.async false
set_option linter.all false
set_option maxRecDepth 100000
set_option maxHeartbeats 4000000
namespace DS
open PySem PySem.Spec L2
open PyProof.Rows hiding St

section
variable {S : Sc} {W : WX} {a b e c tg iter elt : Expr} {es ifs : List Expr} {fa fb f : EF} {pos : Pos} {body : List Stmt} {g : SF}

/-! ### for -/
open Classical in
noncomputable def forGo (tg : GF) (body : SF) (src : List (Nat × D)) : List D → SF
  | [] => fun ρ L => .nx ρ L
  | d :: ds => fun ρ L => match tg d ρ with
    | none => .bad
    | some ρ1 => match body ρ1 L with
      | .nx ρ2 L2 => if srcOk L2 src then forGo tg body src ds ρ2 L2 else .bad
      | .ct ρ2 L2 => if srcOk L2 src then forGo tg body src ds ρ2 L2 else .bad
      | .bk ρ2 L2 => .nx ρ2 L2
      | r => r
noncomputable def sFor (it : IF) (tg : GF) (body : SF) : SF := fun ρ L => match it ρ L with
  | .ok its L1 => forGo tg body its.src its.ds ρ L1
  | .err c p L1 => .err c p ρ L1
  | .bad => .bad
theorem ss_for {own : List Nat} {fi : IF} {ft : GF} (hi : SI S W tg iter fi) (hg : SG S W own tg ft) (hb : SSs S W body g) (hs : ∀ env x, foldedSetIterable iter env x = pure x := by intro _ _; rfl) :
    SS S W (.For tg iter body [] pos) (sFor fi ft g) := fun X h =>
  PS.imp (ps_for h.passes h.calm (hi X h) (hg X h) (hb X h) (hs _)) fun D σ H ⟨w, ρ, L, R, e, p⟩ => by
    refine ⟨w, ρ, L, R, e, ?_⟩
    unfold sFor at p
    cases q : fi ρ L with
    | bad => rw [q] at p; exact p
    | err c x L1 =>
      rw [q] at p
      exact fun w1 H1 dx l R1 x1 C m => p w1 σ H1 dx l R1 (e.le l) x1 C m
    | ok its L1 =>
      rw [q] at p
      intro w1 H1 J l1 R1 so io
      refine ⟨fun i m σ H => ∃ w2 ρ2 L2, w1.le w2 ∧ Rel S.g w2 L2 H ∧ EnvR S.g w2 σ ρ2 ∧ srcOk L2 its.src ∧ i ≤ its.ds.length ∧ m = its.ds.length - i ∧ PostS S.g w2 (forGo ft g its.src (its.ds.drop i) ρ2 L2) D W,
        ⟨its.ds.length, w1, ρ, L1, .refl w1, R1, e.le l1, so, Nat.zero_le _, by simp, PostS.le l1 p⟩, ?_⟩
      rintro i m σ H ⟨w2, ρ2, L2, l2, R2, e2, so2, hi, rfl, p2⟩
      obtain ⟨k1, k2⟩ := io w2 L2 H l2.tole0 R2 so2 i
      by_cases hlt : i < its.ds.length
      · have hd : its.ds[i]? = some its.ds[i] := List.getElem?_eq_getElem hlt
        obtain ⟨g1, g2⟩ := k1 _ hd
        rw [List.drop_eq_getElem_cons hlt] at p2
        refine .inr ⟨g1, fun σ H => ∃ w2 ρ2 L2, w1.le w2 ∧ Rel S.g w2 L2 H ∧ EnvR S.g w2 σ ρ2 ∧ srcOk L2 its.src ∧ PostS S.g w2 (forGo ft g its.src (its.ds.drop (i + 1)) ρ2 L2) D W,
          fun σ' H' ⟨w3, ρ3, L3, l3, R3, e3, so3, p3⟩ => ⟨its.ds.length - (i + 1), by omega, w3, ρ3, L3, l3, R3, e3, so3, hlt, rfl, p3⟩, fun x H' y => ?_⟩
        obtain ⟨w3, l3, R3, d3⟩ := g2 x H' y
        unfold forGo at p2
        cases qt : ft its.ds[i] ρ2 with
        | none => simp only [qt] at p2; exact p2.elim
        | some ρ3 =>
          simp only [qt] at p2
          refine ⟨w3, ρ2, L2, _, ρ3, R3, e2.le l3, d3, qt, fun σ3 e3 _ => ⟨w3, ρ3, L2, R3, e3, ?_⟩⟩
          have l13 : w1.le w3 := l2.trans l3
          have p3 := PostS.le l3 p2
          clear p2
          cases qb : g ρ3 L2 with
          | nx ρ4 L4 =>
            rw [qb] at p3
            dsimp only at p3
            intro w4 σ4 H4 l4 R4 e4
            by_cases hso : srcOk L4 its.src
            · rw [if_pos hso] at p3
              exact ⟨w4, ρ4, L4, l13.trans l4, R4, e4, hso, PostS.le l4 p3⟩
            · rw [if_neg hso] at p3; exact p3.elim
          | ct ρ4 L4 =>
            rw [qb] at p3
            dsimp only at p3
            intro w4 σ4 H4 l4 R4 e4
            by_cases hso : srcOk L4 its.src
            · rw [if_pos hso] at p3
              exact ⟨w4, ρ4, L4, l13.trans l4, R4, e4, hso, PostS.le l4 p3⟩
            · rw [if_neg hso] at p3; exact p3.elim
          | bk ρ4 L4 => rw [qb] at p3; exact p3
          | rt d L4 => rw [qb] at p3; exact p3
          | err c x ρ4 L4 => rw [qb] at p3; exact p3
          | bad => rw [qb] at p3; exact p3
      · have hd : i = its.ds.length := by omega
        rw [List.drop_eq_nil_of_le (by omega)] at p2
        exact .inl ⟨k2 hd, p2 w2 σ H (.refl _) R2 e2⟩

/-! ### comprehensions -/
def W0 : WX := fun _ _ _ _ => False
def Sc.blk (S : Sc) (scope : Scope) : Sc := { S with sc := relS scope S.sc, fn := fun x => scope.names.lookup x == some .cell }
theorem Sc.Has.blk {X : Cx} {scope : Scope} (h : S.Has W X) (s : Shared) (H : Hp) (C : Addr) (cl : List (Str × Addr)) (fp : List Addr) : (S.blk scope).Has W0 (X.blk s H scope (compEnvC scope cl C X.env) fp) where
  P := h.P
  w := h.w
  K := h.K
  mg := h.mg
  base := h.base
  N := h.N
  sc := by
    show relS scope S.sc = relabel scope X.env
    rw [h.sc] <;> rfl
  fn := rfl
  calm := h.calm
  room := h.room
  takes := fun u s' ⟨_, _, _, _, _, _, _, _, _, _, _, _, _, _, _, _, w⟩ => w.elim
  passes := PassesOwn.never
/-- the tests of a clause -/
def STs (S : Sc) (W : WX) (ifs : List Expr) (t : TF) : Prop := ∀ X, S.Has W X → PTs X ifs (tR S.g eqR W t)
def tTrue : TF := fun _ L => .ok true L
theorem sts_nil : STs S W [] tTrue := fun X h => ⟨fun pins s σ H Q I ⟨w, ρ, L, R, e, p⟩ => (pts_nil (X := X)).run pins s σ H Q I (Post.ok p (Wd.le.refl w) R rfl)⟩
theorem sts_one {t : TF} (hc : ST S W c t) : STs S W [c] t := fun X h => pts_one (hc X h)
def lineB (n : Nat) : Bool := decide (n ≤ 16777216)
open Classical in
noncomputable def lcGo (src : List (Nat × D)) (tg : GF) (t : TF) (f : EF) (ρ : Env') : List D → List D → Sto → Res (List D)
  | [], acc, L => .ok acc L
  | d :: ds, acc, L => match tg d ρ with
    | none => .bad
    | some ρ1 => match t ρ1 L with
      | .ok true L1 => (match f ρ1 L1 with
        | .ok y L2 => if acc.length < 16777216 ∧ srcOk L2 src then lcGo src tg t f ρ ds (acc ++ [y]) L2 else .bad
        | _ => .bad)
      | .ok false L1 => if srcOk L1 src then lcGo src tg t f ρ ds acc L1 else .bad
      | _ => .bad
/-- a list: as a value | in a box -/
def lstOut (box : Bool) (ds : List D) (L : Sto) : Res D := if box = true then .ok (.loc L.length) (L ++ [.lst ds]) else .ok (.lst ds) L
noncomputable def eLc (box : Bool) (own : List Nat) (it : IF) (tg : GF) (t : TF) (f : EF) : EF := fun ρ L => match it ρ L with
  | .ok its L1 => (lcGo its.src tg t f (wipeE ρ own) its.ds [] L1).bind (lstOut box)
  | .err c p L1 => .err c p L1
  | .bad => .bad
theorem DenL.snoc {G : Gb} {w : Wd} : ∀ {vs : List V} {ds : List D} {v : V} {d : D}, DenL G w vs ds → Den G w v d → DenL G w (vs ++ [v]) (ds ++ [d])
  | _, _, _, _, .nil, h => .cons h .nil
  | _, _, _, _, .cons a t, h => .cons a (t.snoc h)
/-- from the reading of the iterator to that of the comprehension -/
theorem tLc_of {own : List Nat} {fi : IF} {ft : GF} {t : TF} {box : Bool} {σ : St} {H : Hp} {Q : VK} (q : tR S.g (Den S.g) W (eLc box own fi ft t f) σ H Q) :
    tLc (tI S.g W fi) (tG S.g own ft) (tR S.g eqR W0 t) (tR S.g (Den S.g) W0 f) own σ H Q := by
  obtain ⟨w, ρ, L, R, e, p⟩ := q
  refine ⟨w, ρ, L, R, e, ?_⟩
  unfold eLc at p
  cases q : fi ρ L with
  | bad => rw [q] at p; exact p
  | err c x L1 => rw [q] at p; exact p
  | ok its L1 =>
    rw [q] at p
    dsimp only at p
    intro w1 H1 J l1 R1 so io Dd hD
    have ew := (e.le l1).wipe own
    -- the list stands by itself at Dd
    have R2 := R1.newP (o := .lst []) hD
    refine ⟨fun i m H => ∃ (w2 : Wd) (L2 : Sto) (vs : List V) (acc : List D), w1.le0 w2 ∧ w2.prv = upd w1.prv Dd (.lst vs) ∧ Rel S.g w2 L2 H ∧ srcOk L2 its.src ∧ DenL S.g w2 vs acc ∧
        i ≤ its.ds.length ∧ m = its.ds.length - i ∧ Post S.g (Den S.g) w1 ((lcGo its.src ft t f (wipeE ρ own) (its.ds.drop i) acc L2).bind (lstOut box)) Q (fun c dx H' => W c dx σ H'), ?_, ?_⟩
    · exact ⟨its.ds.length, ⟨w1.F, w1.φ, upd w1.prv Dd (.lst [])⟩, L1, [], [], Wd.prv_le _ _, rfl, R2, so, .nil, Nat.zero_le _, by simp, Post.le l1 p⟩
    · rintro i m H ⟨w2, L2, vs, acc, l2, pv2, R3, so2, da, hi, rfl, p2⟩
      obtain ⟨k1, k2⟩ := io w2 L2 H l2 R3 so2 i
      by_cases hlt : i < its.ds.length
      · have hd : its.ds[i]? = some its.ds[i] := List.getElem?_eq_getElem hlt
        obtain ⟨g1, g2⟩ := k1 _ hd
        rw [List.drop_eq_getElem_cons hlt] at p2
        refine .inr ⟨g1, fun H => ∃ (w2 : Wd) (L2 : Sto) (vs : List V) (acc : List D), w1.le0 w2 ∧ w2.prv = upd w1.prv Dd (.lst vs) ∧ Rel S.g w2 L2 H ∧ srcOk L2 its.src ∧ DenL S.g w2 vs acc ∧ Post S.g (Den S.g) w1 ((lcGo its.src ft t f (wipeE ρ own) (its.ds.drop (i + 1)) acc L2).bind (lstOut box)) Q (fun c dx H' => W c dx σ H'),
          fun H' ⟨w2, L2, vs, acc, x1, x2, x3, x3', x4, x5⟩ => ⟨its.ds.length - (i + 1), by omega, w2, L2, vs, acc, x1, x2, x3, x3', x4, hlt, rfl, x5⟩, fun x H' y => ?_⟩
        obtain ⟨w3, l3, R4, d3⟩ := g2 x H' y
        have l13 : w1.le0 w3 := l2.trans l3.tole0
        have pv3 : w3.prv = upd w1.prv Dd (.lst vs) := l3.same.trans pv2
        unfold lcGo at p2
        cases qt : ft its.ds[i] (wipeE ρ own) with
        | none => simp only [qt] at p2; exact p2.elim
        | some ρ3 =>
          simp only [qt] at p2
          refine ⟨w3, wipeE ρ own, L2, _, ρ3, R4, ew.le0 l13, d3, qt, fun σ3 e3 hw => ⟨hw.trans wipe_idem, w3, ρ3, L2, R4, e3, ?_⟩⟩
          cases qq : t ρ3 L2 with
          | bad => simp only [qq] at p2; exact p2.elim
          | err c x L3 => simp only [qq] at p2; exact p2.elim
          | ok b L3 =>
            intro w4 H4 b' l4 R5 hb
            subst hb
            cases b' with
            | false =>
              simp only [qq] at p2
              rw [if_neg (by decide)]
              split at p2
              · rename_i hso
                exact ⟨w4, L3, vs, acc, l13.trans l4.tole0, l4.same.trans pv3, R5, hso, (da.le0 l3.tole0).le0 l4.tole0, p2⟩
              · exact p2.elim
            | true =>
              simp only [qq] at p2
              rw [if_pos rfl]
              refine ⟨w4, ρ3, L3, R5, e3.le l4, ?_⟩
              cases qf : f ρ3 L3 with
              | bad => simp only [qf] at p2; exact p2.elim
              | err c x L4 => simp only [qf] at p2; exact p2.elim
              | ok y L4 =>
                simp only [qf] at p2
                intro w5 H5 yv l5 R6 dy
                split at p2
                · rename_i hsz
                  have pv5 : w5.prv = upd w1.prv Dd (.lst vs) := l5.same.trans (l4.same.trans pv3)
                  have hp : w5.prv Dd = some (.lst vs) := by rw [pv5]; exact upd_same
                  have l15 : w1.le0 w5 := (l13.trans l4.tole0).trans l5.tole0
                  have da5 : DenL S.g w5 vs acc := ((da.le0 l3.tole0).le0 l4.tole0).le0 l5.tole0
                  refine ⟨vs, (R6.prv _ _ hp).1, by rw [da.length, sizeLine_eq]; exact hsz.1, ⟨w5.F, w5.φ, upd w5.prv Dd (.lst (vs ++ [yv]))⟩, L4, vs ++ [yv], acc ++ [y], l15.trans (Wd.prv_le _ _), by rw [pv5]; exact upd_upd, R6.putP hp, hsz.2, (da5.snoc dy).le0 (Wd.prv_le _ _), p2⟩
                · exact p2.elim
      · have hd : i = its.ds.length := by omega
        rw [List.drop_eq_nil_of_le (by omega)] at p2
        refine .inl ⟨k2 hd, ?_⟩
        have hp : w2.prv Dd = some (.lst vs) := by rw [pv2]; exact upd_same
        have hq : ∀ a u, w1.prv a = some u → a ≠ Dd ∧ w2.prv a = some u := fun a u h => by
          have na : a ≠ Dd := fun z => by rw [z] at h; rw [(R1.prv _ _ h).1] at hD; cases hD
          exact ⟨na, by rw [pv2, upd_ne na]; exact h⟩
        have p3 : Post S.g (Den S.g) w1 (lstOut box acc L2) Q (fun c dx H' => W c dx σ H') := p2
        unfold lstOut at p3
        cases box with
        | true =>
          rw [if_pos rfl] at p3
          obtain ⟨Rz, lz⟩ := R3.outB hp (.lst da) w1.prv hq
          refine p3 _ H (.ref Dd) ⟨l2.trans lz, rfl⟩ Rz (.loc ?_)
          show (w2.φ ++ [Dd])[L2.length]? = some Dd
          rw [← R3.len, List.getElem?_append_right (Nat.le_refl _)]
          simp
        | false =>
          rw [if_neg (by decide)] at p3
          obtain ⟨Rz, lz⟩ := R3.outP hp w1.prv hq
          exact p3 _ H (.ref Dd) ⟨l2.trans lz, rfl⟩ Rz (.lst upd_same (da.le0 lz))
theorem se_lc {fi : IF} {ft : GF} {t : TF} (box : Bool) {scope : Scope} (own : List (Str × Nat)) (hN : S.N.Nodup) (hi : SI S W tg iter fi) (ok : blkC S.N S.sc scope own = true)
    (hg : SG (S.blk scope) W0 (own.map (·.2)) tg ft) (ht : STs (S.blk scope) W0 ifs t) (he : SE (S.blk scope) W0 elt f) (hs : ∀ env x, foldedSetIterable iter env x = pure x := by intro _ _; rfl) :
    SE S W (.ListComp elt [⟨tg, iter, ifs, 0⟩] scope pos) (eLc box (own.map (·.2)) fi ft t f) := fun X h =>
  PE.imp (pe_lc (own := own) h.calm (by rw [← h.N]; exact hN) (hi X h) (blkOk_by (by rw [← h.N, ← h.sc]; exact ok)) (fun s H C cl fp => hg _ (h.blk s H C cl fp)) (fun s H C cl fp => ht _ (h.blk s H C cl fp)) (fun s H C cl fp => he _ (h.blk s H C cl fp)) (hs _)) fun σ H Q q => tLc_of q
/-- name = [..], on one line -/
theorem ss_setLc (i : Nat) {y : Str} {py spos : Pos} {fi : IF} {ft : GF} {t : TF} (box : Bool) {scope : Scope} (own : List (Str × Nat)) (hN : S.N.Nodup) (hi : SI S W tg iter fi) (ok : blkC S.N S.sc scope own = true)
    (hg : SG (S.blk scope) W0 (own.map (·.2)) tg ft) (ht : STs (S.blk scope) W0 ifs t) (he : SE (S.blk scope) W0 elt f) (hy : S.N[i]? = some y := by rfl) (hyl : S.sc.names.lookup y = some .local := by rfl)
    (hk : S.sc.kind = .function := by rfl) (hl : (py.line == pos.line) = true := by rfl)
    (hs : ∀ env x, foldedSetIterable iter env x = pure x := by intro _ _; rfl) (hsw : ∀ env : Env, env.scope.kind = .function → env.scope.names.lookup y = some .local → swapsWith (.ListComp elt [⟨tg, iter, ifs, 0⟩] scope pos) (some (.Name y py)) spos.line env = pure true := by intro env h1 h2; exact sw_true h1 h2 rfl) :
    SS S W (.Assign [.Name y py] (.ListComp elt [⟨tg, iter, ifs, 0⟩] scope pos) spos) (sSet i (eLc box (own.map (·.2)) fi ft t f)) := fun X h =>
  PS.imp (ps_setLc (i := i) (own := own) h.calm (by rw [← h.N]; exact hN) (by rw [← h.N]; exact hy) (by rw [← h.sc]; exact hyl) (hsw _ (by rw [← h.sc]; exact hk) (by rw [← h.sc]; exact hyl)) (hi X h) (blkOk_by (by rw [← h.N, ← h.sc]; exact ok))
    (fun s H C cl fp => hg _ (h.blk s H C cl fp)) (fun s H C cl fp => ht _ (h.blk s H C cl fp)) (fun s H C cl fp => he _ (h.blk s H C cl fp)) (hs _)) fun D σ H ⟨w, ρ, L, R, e, p⟩ =>
    tLc_of ⟨w, ρ, L, R, e, (PostS.bind e p).imp (fun v H1 ⟨w1, d, L1, l1, R1, d1, p1⟩ => p1 w1 _ H1 (Wd.le.refl _) R1 ((e.le l1).set i d1)) fun _ _ _ z => z⟩
end
end DS
set_option Elab.async false
set_option linter.all false
set_option maxRecDepth 100000
set_option maxHeartbeats 4000000
namespace DS
open PySem PySem.Spec L2
open PyProof.Rows hiding St

/-! ### lists and tuples in one -/
def SqB (k : Bool) (K : PySem.W.Frag) (H : Hp) (a : Addr) (xs : List V) : Prop := match k with
  | true => SqL K H a xs
  | false => SqT K H a xs
def ItB (k : Bool) (h : Heap) (it a : Addr) (i : Nat) : Prop := match k with
  | true => h.IsListIter it a i
  | false => h.IsTupleIter it a i
def AtB (k : Bool) (h : Heap) (a : Addr) (its : Array Value) : Prop := match k with
  | true => h.IsList a its
  | false => h.IsTuple a its
theorem sqB_inv {X : Cx} {pins : List (Addr × Obj)} {σ : St} {H : Hp} {s : Shared} {k : Bool} {a : Addr} {xs : List V} (I : Inv X pins σ H s) (h : SqB k X.K H a xs) : ∃ its : List Value, Vals xs its ∧ AtB k s.heap a its.toArray ∧ xs.length ≤ sizeLine := by
  cases k with
  | true => obtain ⟨its, r, p, z⟩ := I.list h; exact ⟨its, r, p.isList, z⟩
  | false => obtain ⟨its, r, p, z⟩ := I.tuple h; exact ⟨its, r, p, z⟩
theorem sqB_inj {X : Cx} {pins : List (Addr × Obj)} {σ : St} {H : Hp} {s : Shared} {k : Bool} {a : Addr} {xs ys : List V} (I : Inv X pins σ H s) (h : SqB k X.K H a xs) (h' : SqB k X.K H a ys) : xs = ys := by
  cases k with
  | true => exact I.list_inj h h'
  | false => exact I.tuple_inj h h'
theorem drawsB {prog : Program} {w : World} {A : Around} (hh : A.handled = none) (k : Bool) (it a : Addr) (ne : a ≠ it) (items : Array Value) :
    Draws prog w A it [it, a] items.size (fun i v => items[i]? = some v) (fun i h => ItB k h it a i ∧ AtB k h a items) := by
  cases k with
  | true => exact Draws.list hh it a ne items
  | false => exact Draws.tuple hh it a ne items
def beginB (k : Bool) (a : Addr) : Obj := match k with
  | true => { cls := .type "list_iterator", data := .fields #[.ref a, .int 0 0] }
  | false => { cls := .type "tuple_iterator", data := .fields #[.ref a, .int 0 0] }
theorem beginsB (k : Bool) (a : Addr) (items : Array Value) : Begins (.ref a) (beginB k a) (fun h => AtB k h a items) := by
  cases k with
  | true => exact begins_list a items
  | false => exact begins_tuple a items
theorem itB_begin {k : Bool} {h : Heap} {it a : Addr} (e : h.get? it = some (beginB k a)) : ItB k h it a 0 := by
  cases k with
  | true => exact ⟨_, e, rfl, rfl⟩
  | false => exact ⟨_, e, rfl, rfl⟩
theorem itB_obj {k : Bool} {h : Heap} {it a : Addr} {i : Nat} (x : ItB k h it a i) : ∃ o, h.get? it = some o ∧ ∀ v, o.data ≠ .cell v := by
  cases k with
  | true => obtain ⟨o, e, _, d⟩ := x; exact ⟨o, e, fun v z => by rw [d] at z; cases z⟩
  | false => obtain ⟨o, e, _, d⟩ := x; exact ⟨o, e, fun v z => by rw [d] at z; cases z⟩
theorem itB_at {k : Bool} {h h' : Heap} {it a : Addr} {i : Nat} (x : ItB k h it a i) (kp : ∀ o, h.get? it = some o → h'.get? it = some o) : ItB k h' it a i := by
  cases k with
  | true => exact Heap.IsListIter.at x kp
  | false => exact Heap.IsTupleIter.at x kp
theorem sqB_some {X : Cx} {pins : List (Addr × Obj)} {σ : St} {H : Hp} {s : Shared} {k : Bool} {a b : Addr} {xs : List V} (I : Inv X pins σ H s) (h : SqB k X.K H a xs) (hb : FpOk X pins H b) : a ≠ b := by
  intro e
  subst e
  obtain ⟨f0, _, _, f3, _, _⟩ := hb
  have hk : (∃ u, Rd H a u) ∨ ∃ o, X.K.lookup a = some o := by
    cases k with
    | true => rcases h with h | ⟨o, _, _, h, _⟩; exact .inl ⟨_, h⟩; exact .inr ⟨o, h⟩
    | false => rcases h with h | ⟨o, _, _, h, _⟩; exact .inl ⟨_, h⟩; exact .inr ⟨o, h⟩
  rcases hk with ⟨u, r | ⟨o, r⟩⟩ | ⟨o, hk⟩
  · rw [f0] at r; cases r
  · rw [f0] at r; cases r
  · have hb := I.ok.mod.kin a o hk
    rcases f3 with z | z
    · exact I.ok.noex a o hb z
    · exact absurd (Nat.lt_of_lt_of_le (Heap.lt_size (I.ok.bs a o hb).1) z) (Nat.lt_irrefl _)

/-! ### enumerate -/
def ItEn (k : Bool) (K : PySem.W.Frag) (a : Addr) : It :=
  ⟨fun i H => ∃ (xs : List V) (x : V), SqB k K H a xs ∧ xs[i]? = some x, fun i H v H' => ∃ T x, v = .ref T ∧ H T = none ∧ H' = upd H T (.tup [.int (i : Nat), x]) ∧ ∀ xs, SqB k K H a xs → xs[i]? = some x, fun i H => ∃ xs : List V, SqB k K H a xs ∧ i = xs.length⟩
theorem turn_en {P : Program} {w : World} {K : PySem.W.Frag} {elts : List Expr} {kk : Nat} {tpos : Pos} (k : Bool) (a e it : Addr) (hne : e ≠ it) :
    Turn P w K (.Tuple elts kk tpos) (ItEn k K a) [e, it] e (fun i h => (∃ old, IsEnum h e it ((i : Nat) : Int) old) ∧ ItB k h it a i) where
  mem := by simp
  obj := fun i h st b hb => by
    obtain ⟨⟨old, he⟩, hi⟩ := st
    have e' : b = e ∨ b = it := by simpa using hb
    rcases e' with z | z
    · rw [z]; exact ⟨_, he, fun v q => nomatch q⟩
    · rw [z]; exact itB_obj hi
  keep := fun i h h' st kp => let ⟨⟨old, he⟩, hi⟩ := st; ⟨⟨old, kp e (by simp) _ he⟩, itB_at hi fun o q => kp it (by simp) o q⟩
  item := by
    intro X hP hw hK hc i pins s σ H E I hf st hg
    subst hP hw hK
    obtain ⟨⟨old, he⟩, hit⟩ := st
    obtain ⟨xs, x, hq, hx⟩ := hg
    obtain ⟨its, rv, p, hz⟩ := sqB_inv I hq
    obtain ⟨u, hu, ru⟩ := rv.get hx
    have nae : a ≠ e := sqB_some I hq (hf e (by simp))
    have nai : a ≠ it := sqB_some I hq (hf it (by simp))
    have W := GoesN.enumFrom (prog := X.prog) (w := X.w) (A := X.A) (elts := elts) (x1 := kk) (pos := tpos) 0 (drawsB (A := X.A.in1) (I.ok.hd hc) k it a nai its.toArray) e hne (by simp only [List.mem_cons, List.not_mem_nil, or_false, not_or]; exact ⟨hne, Ne.symm nae⟩) (by simp)
    have hi : i < its.toArray.size := by
      have := getElem?_lt hu
      simpa using this
    have z0 : ∀ j : Nat, (0 : Int) + (j : Int) = (j : Int) := fun j => by omega
    refine wpAny_mono (W.goes i s (fun v s2 => ∃ x H', Inv X pins σ H' s2 ∧ RelV x v ∧ (ItEn k X.K a).yld i H x H' ∧ ((∃ old, IsEnum s2.heap e it ((i + 1 : Nat) : Int) old) ∧ ItB k s2.heap it a (i + 1)) ∧ ∀ b ∈ [e, it], H' b = none) E hi ⟨⟨old, by rw [z0]; exact he⟩, hit, p⟩ fun v h' tk hY st' hk htk => ?_) (fun r s1 h1 => ?_) fun _ _ z => z
    · obtain ⟨T, t, y, rfl, hT, hy, hTup⟩ := hY
      obtain ⟨⟨old', he'⟩, hit', _⟩ := st'
      have ey : y = u := by
        have : its.toArray[i]? = some u := by simpa using hu
        rw [this] at hy; exact (Option.some.inj hy).symm
      subst ey
      have new : ObjOk X.prog X.w (upd H T (.tup [.int (i : Nat), x])) h' T (.tup [.int (i : Nat), x]) :=
        ⟨by show 2 ≤ sizeLine; decide, [.int i t, y], .cons ⟨_, rfl⟩ (.cons ru .nil), by rw [z0] at hTup; exact hTup⟩
      have I1 : Inv X pins σ (upd H T (.tup [.int (i : Nat), x])) { s with heap := h', toks := tk } := I.turnedNew (ch := [e, it]) hk hf hT new
      refine ⟨.ref T, _, I1, rfl, ⟨T, x, rfl, I.hok.fresh hT, rfl, fun ys hy => by rw [sqB_inj I hy hq]; exact hx⟩, ⟨⟨old', by rw [z0] at he'; exact he'⟩, hit'⟩, fun b hb => ?_⟩
      have hbl : b < s.heap.objs.size := by
        have e' : b = e ∨ b = it := by simpa using hb
        rcases e' with z | z
        · rw [z]; exact Heap.lt_size he
        · rw [z]; obtain ⟨o, q, _⟩ := itB_obj hit; exact Heap.lt_size q
      rw [upd_ne (Nat.ne_of_lt (Nat.lt_of_lt_of_le hbl hT))]
      exact (hf b hb).1
    · obtain ⟨v, hv, h2⟩ := h1
      exact ⟨v, hv, h2⟩
  done := by
    intro X hP hw hK hc i pins s σ H E I hf st hg
    subst hP hw hK
    obtain ⟨⟨old, he⟩, hit⟩ := st
    obtain ⟨xs, hq, hx⟩ := hg
    obtain ⟨its, rv, p, hz⟩ := sqB_inv I hq
    have nae : a ≠ e := sqB_some I hq (hf e (by simp))
    have nai : a ≠ it := sqB_some I hq (hf it (by simp))
    have W := GoesN.enumFrom (prog := X.prog) (w := X.w) (A := X.A) (elts := elts) (x1 := kk) (pos := tpos) 0 (drawsB (A := X.A.in1) (I.ok.hd hc) k it a nai its.toArray) e hne (by simp only [List.mem_cons, List.not_mem_nil, or_false, not_or]; exact ⟨hne, Ne.symm nae⟩) (by simp)
    have hl := rv.length
    have hi : its.toArray.size = i := by simp only [List.size_toArray]; omega
    have z0 : ∀ j : Nat, (0 : Int) + (j : Int) = (j : Int) := fun j => by omega
    exact W.stops s (fun s1 => Inv X pins σ H s1) E (by rw [hi]; exact ⟨⟨old, by rw [z0]; exact he⟩, hit, p⟩) fun h' tk hk _ => I.turnedL (ch := [e, it]) hk hf
  self := fun A i s Q E st h => let ⟨⟨_, he⟩, _⟩ := st; wpAny_pyIter_enum he h
theorem meets_enumerate_newB1 {v : Value} {o : Obj} {H : Heap → Prop} (B : Begins v o H) :
    Meets (Builtin.«enumerate.__new__» ⟨[.type "enumerate", v], []⟩) (fun _ R s => H s.heap ∧
      R (.ok (.ret (.ref (s.heap.push o).objs.size))) { s with heap := (s.heap.push o).push { cls := .type "enumerate", data := .fields #[.none, .bool false, .ref s.heap.objs.size, rawInt 0, .none, .none] } }) :=
  .of_wp fun prog w A R s h => by
    obtain ⟨hp, g, d, tk, os⟩ := s; obtain ⟨h1, h⟩ := h
    have hsub := sub_enumerate
    have q1 : ∀ {A' : Around} {E : Value → Shared → Prop} {Q : Value → Shared → Prop}, Q (.ref hp.objs.size) ⟨hp.push o, g, d, tk, os⟩ → wpAny (model prog w) A' (pyIter v) Q E ⟨hp, g, d, tk, os⟩ :=
      fun q => B.iter prog w _ _ ⟨hp, g, d, tk, os⟩ _ h1 q
    wp_walk using q1
    refine wpAny_stack_any fun st => wpAny_pure ?_
    split
    · rename_i c _ _ _ _ _
      cases (c == Value.type "enumerate")
      · wp_walk using q1
        exact ⟨_, rfl, h⟩
      · wp_walk using q1
        exact ⟨_, rfl, h⟩
    · wp_walk using q1
      exact ⟨_, rfl, h⟩
theorem enum_begins1 {prog : Program} {w : World} {A : Around} {E : Value → Shared → Prop} {s : Shared} {v : Value} {o : Obj} {H : Heap → Prop} {Q : Value → Shared → Prop} (B : Begins v o H) (h1 : H s.heap)
    (h : ∀ h', IsEnum h' (s.heap.objs.size + 1) s.heap.objs.size 0 .none → h'.get? s.heap.objs.size = some o → h'.objs.size = s.heap.objs.size + 2 →
      (∀ b o, s.heap.get? b = some o → h'.get? b = some o) → Q (.ref (s.heap.objs.size + 1)) { s with heap := h' }) :
    wpAny (model prog w) A (call (.type "enumerate") [v]) Q E s := by
  refine callType_new F.called_enumerate (by decide) (F.typeCall_enumerate_1 _) (F.newCall_enumerate_1 _) (fun obj => F.args_object_init_2 obj _) F.entry_enumerate_new
    (meets_enumerate_newB1 B) ⟨h1, ?_⟩
  have hz : (s.heap.push o).objs.size = s.heap.objs.size + 1 := Heap.size_push ..
  show _ ∧ _
  rw [hz]
  have he : IsEnum ((s.heap.push o).push { cls := .type "enumerate", data := .fields #[.none, .bool false, .ref s.heap.objs.size, rawInt 0, .none, .none] }) (s.heap.objs.size + 1) s.heap.objs.size 0 .none := by
    have := Heap.get?_push_size (s.heap.push o) (o := { cls := .type "enumerate", data := .fields #[.none, .bool false, .ref s.heap.objs.size, rawInt 0, .none, .none] }) rfl
    rw [hz] at this; exact this
  refine ⟨⟨_, he, rfl⟩, h _ he (Heap.get?_push_of_some _ (Heap.get?_push_size _ B.free)) (by rw [Heap.size_push, hz]) fun b o x => Heap.get?_push_of_some _ (Heap.get?_push_of_some _ x)⟩
def iEn (K : PySem.W.Frag) (ta : TA) : TI := fun σ H R => ta σ H fun vs H1 => ∃ k a xs, vs = [.ref a] ∧ SqB k K H1 a xs ∧ R (ItEn k K a) H1
theorem pi_en {X : Cx} {e : Expr} {ta : TA} {p pos tpos : Pos} {elts : List Expr} {kk : Nat} (hg : Gl X "enumerate") (hm : X.mg "enumerate" = none) (ha : PA X [e] ta) (hs : starEach [e] X.env = [(false, eval e X.env)] := by rfl) :
    PI X (.Tuple elts kk tpos) (.Call (.Name "enumerate" p) [e] [] pos) (iEn X.K ta) := by
  refine ⟨fun pins s σ H R I h => ?_⟩
  refine Call_ (ld_blt I hg hm boot_enumerate (PyProof.Rows.callWith_type1 (thn (ha.run pos pins s σ H _ I h) fun us s1 ⟨vs, H1, I1, r1, q1⟩ => ?_) hs rfl))
  obtain ⟨k, a, xs, ex, hq, q⟩ := q1
  subst ex
  cases r1 with
  | cons r rr =>
    cases rr
    cases r
    obtain ⟨its, rv, p', hz⟩ := sqB_inv I1 hq
    refine enum_begins1 (beginsB k a its.toArray) p' fun h' he hit hsz hk => wpAny_pyIter_enum he ?_
    have I2 : Inv X pins σ H1 { s1 with heap := h' } := I1.kept (t' := s1.toks) hk
    refine ⟨s1.heap.objs.size + 1, [s1.heap.objs.size + 1, s1.heap.objs.size], _, _, H1, rfl, I2, turn_en k a (s1.heap.objs.size + 1) s1.heap.objs.size (Nat.succ_ne_self _), ⟨⟨.none, he⟩, itB_begin hit⟩, fun b hb => ?_, q⟩
    have e' : b = s1.heap.objs.size + 1 ∨ b = s1.heap.objs.size := by simpa using hb
    have hle : s1.heap.objs.size ≤ b := by
      rcases e' with z | z
      · rw [z]; exact Nat.le_add_right _ _
      · rw [z]; exact Nat.le_refl _
    exact I1.fpOk hle (I1.hok.fresh hle)

/-! ### zip -/
def ItZp (k j : Bool) (K : PySem.W.Frag) (a b : Addr) : It :=
  ⟨fun i H => ∃ (xs ys : List V) (x y : V), SqB k K H a xs ∧ SqB j K H b ys ∧ xs[i]? = some x ∧ ys[i]? = some y,
    fun i H v H' => ∃ T x y, v = .ref T ∧ H T = none ∧ H' = upd H T (.tup [x, y]) ∧ (∀ xs, SqB k K H a xs → xs[i]? = some x) ∧ ∀ ys, SqB j K H b ys → ys[i]? = some y,
    fun i H => ∃ xs ys : List V, SqB k K H a xs ∧ SqB j K H b ys ∧ i = min xs.length ys.length⟩
/-- the cells of a zip lie apart -/
structure ZpApart (z TI TO i1 i2 : Addr) : Prop where
  TIz : TI ≠ z
  TOz : TO ≠ z
  TITO : TI ≠ TO
  TIi1 : TI ≠ i1
  TIi2 : TI ≠ i2
  zi1 : z ≠ i1
  zi2 : z ≠ i2
  TOi1 : TO ≠ i1
  TOi2 : TO ≠ i2
  i12 : i1 ≠ i2
theorem turn_zp {P : Program} {w : World} {K : PySem.W.Frag} {elts : List Expr} {kk : Nat} {tpos : Pos} (k j : Bool) {a b z TI TO i1 i2 : Addr} (D : ZpApart z TI TO i1 i2) :
    Turn P w K (.Tuple elts kk tpos) (ItZp k j K a b) [z, TI, TO, i1, i2] z (fun i h => IsZip h z TI TO .none ∧ IsTupOf2 h TI (.ref i1) (.ref i2) ∧ (∃ x y, IsTupOf2 h TO x y) ∧ ItB k h i1 a i ∧ ItB j h i2 b i) where
  mem := by simp
  obj := fun i h st c hc => by
    obtain ⟨hz, hTI, ⟨x, y, hTO⟩, h1, h2⟩ := st
    have e' : c = z ∨ c = TI ∨ c = TO ∨ c = i1 ∨ c = i2 := by simpa using hc
    rcases e' with q | q | q | q | q
    · rw [q]; exact ⟨_, hz, fun v q => nomatch q⟩
    · rw [q]; exact ⟨_, hTI, fun v q => nomatch q⟩
    · rw [q]; exact ⟨_, hTO, fun v q => nomatch q⟩
    · rw [q]; exact itB_obj h1
    · rw [q]; exact itB_obj h2
  keep := fun i h h' st kp => by
    obtain ⟨hz, hTI, ⟨x, y, hTO⟩, h1, h2⟩ := st
    exact ⟨kp z (by simp) _ hz, kp TI (by simp) _ hTI, ⟨x, y, kp TO (by simp) _ hTO⟩, itB_at h1 fun o q => kp i1 (by simp) o q, itB_at h2 fun o q => kp i2 (by simp) o q⟩
  item := by
    intro X hP hw hK hc i pins s σ H E I hf st hg
    subst hP hw hK
    obtain ⟨hz, hTI, ⟨x0, y0, hTO⟩, h1, h2⟩ := st
    obtain ⟨xs, ys, x, y, hqx, hqy, hx, hy⟩ := hg
    obtain ⟨its, rv, p, _⟩ := sqB_inv I hqx
    obtain ⟨its2, rv2, p2, _⟩ := sqB_inv I hqy
    obtain ⟨u, hu, ru⟩ := rv.get hx
    obtain ⟨u2, hu2, ru2⟩ := rv2.get hy
    have na : ∀ c ∈ [z, TI, TO, i1, i2], a ≠ c := fun c hc => sqB_some I hqx (hf c hc)
    have nb : ∀ c ∈ [z, TI, TO, i1, i2], b ≠ c := fun c hc => sqB_some I hqy (hf c hc)
    have hh := I.ok.hd hc
    have SP : ZipSep2 z TI TO i1 i2 [i1, a] [i2, b] :=
      { TIz := D.TIz, TOz := D.TOz, TITO := D.TITO, TIi1 := D.TIi1, TIi2 := D.TIi2, mem1 := by simp, mem2 := by simp,
        zf1 := by simp [D.zi1, (na z (by simp)).symm], zf2 := by simp [D.zi2, (nb z (by simp)).symm], Tf1 := by simp [D.TOi1, (na TO (by simp)).symm], Tf2 := by simp [D.TOi2, (nb TO (by simp)).symm],
        sep1_2 := by simp [D.i12, (nb i1 (by simp)).symm], sep2_1 := by simp [D.i12.symm, (na i2 (by simp)).symm] }
    have W := GoesN.zip2 (prog := X.prog) (w := X.w) (A := X.A) (elts := elts) (x1 := kk) (pos := tpos) SP (drawsB (A := X.A.in1) hh k i1 a (na i1 (by simp)) its.toArray) (drawsB (A := X.A.in1) hh j i2 b (nb i2 (by simp)) its2.toArray)
    have hi : i < min its.toArray.size its2.toArray.size := by
      have q1 := getElem?_lt hu
      have q2 := getElem?_lt hu2
      simp only [List.size_toArray]; omega
    have hlt : ∀ c ∈ [z, TI, TO, i1, i2], c < s.heap.objs.size := fun c hcm => by
      have e' : c = z ∨ c = TI ∨ c = TO ∨ c = i1 ∨ c = i2 := by simpa using hcm
      rcases e' with q | q | q | q | q
      · rw [q]; exact Heap.lt_size hz
      · rw [q]; exact Heap.lt_size hTI
      · rw [q]; exact Heap.lt_size hTO
      · rw [q]; obtain ⟨_, e1, _⟩ := itB_obj h1; exact Heap.lt_size e1
      · rw [q]; obtain ⟨_, e2, _⟩ := itB_obj h2; exact Heap.lt_size e2
    refine wpAny_mono (W.goes i s (fun v s2 => ∃ x H', Inv X pins σ H' s2 ∧ RelV x v ∧ (ItZp k j X.K a b).yld i H x H' ∧ (IsZip s2.heap z TI TO .none ∧ IsTupOf2 s2.heap TI (.ref i1) (.ref i2) ∧ (∃ x y, IsTupOf2 s2.heap TO x y) ∧ ItB k s2.heap i1 a (i + 1) ∧ ItB j s2.heap i2 b (i + 1)) ∧ ∀ c ∈ [z, TI, TO, i1, i2], H' c = none) E hi
      ⟨hz, hTI, ⟨x0, y0, hTO⟩, ⟨h1, p⟩, h2, p2⟩ fun v h' tk hY st' hk htk => ?_) (fun r s1 h1 => ?_) fun _ _ z => z
    · obtain ⟨T, y1, y2, rfl, hT, hy1, hy2, hTup⟩ := hY
      obtain ⟨z', TI', TO', ⟨h1', _⟩, h2', _⟩ := st'
      have e1 : y1 = u := by
        have : its.toArray[i]? = some u := by simpa using hu
        rw [this] at hy1; exact (Option.some.inj hy1).symm
      have e2 : y2 = u2 := by
        have : its2.toArray[i]? = some u2 := by simpa using hu2
        rw [this] at hy2; exact (Option.some.inj hy2).symm
      subst e1 e2
      have new : ObjOk X.prog X.w (upd H T (.tup [x, y])) h' T (.tup [x, y]) := ⟨by show 2 ≤ sizeLine; decide, [y1, y2], .cons ru (.cons ru2 .nil), hTup⟩
      have I1 : Inv X pins σ (upd H T (.tup [x, y])) { s with heap := h', toks := tk } := I.turnedNew (ch := [z, TI, TO, i1, i2]) (fun c o hb q => hk c o (fun hm => hb (by
        have : c = z ∨ c = TO ∨ c = i1 ∨ c = i2 := by simpa using hm
        rcases this with q | q | q | q <;> simp [q])) q) hf hT new
      refine ⟨.ref T, _, I1, rfl, ⟨T, x, y, rfl, I.hok.fresh hT, rfl, fun l hl => by rw [sqB_inj I hl hqx]; exact hx, fun l hl => by rw [sqB_inj I hl hqy]; exact hy⟩, ⟨z', TI', TO', h1', h2'⟩, fun c hcm => ?_⟩
      rw [upd_ne (Nat.ne_of_lt (Nat.lt_of_lt_of_le (hlt c hcm) hT))]
      exact (hf c hcm).1
    · obtain ⟨v, hv, h2⟩ := h1
      exact ⟨v, hv, h2⟩
  done := by
    intro X hP hw hK hc i pins s σ H E I hf st hg
    subst hP hw hK
    obtain ⟨hz, hTI, ⟨x0, y0, hTO⟩, h1, h2⟩ := st
    obtain ⟨xs, ys, hqx, hqy, hend⟩ := hg
    obtain ⟨its, rv, p, _⟩ := sqB_inv I hqx
    obtain ⟨its2, rv2, p2, _⟩ := sqB_inv I hqy
    have na : ∀ c ∈ [z, TI, TO, i1, i2], a ≠ c := fun c hc => sqB_some I hqx (hf c hc)
    have nb : ∀ c ∈ [z, TI, TO, i1, i2], b ≠ c := fun c hc => sqB_some I hqy (hf c hc)
    have hh := I.ok.hd hc
    have SP : ZipSep2 z TI TO i1 i2 [i1, a] [i2, b] :=
      { TIz := D.TIz, TOz := D.TOz, TITO := D.TITO, TIi1 := D.TIi1, TIi2 := D.TIi2, mem1 := by simp, mem2 := by simp,
        zf1 := by simp [D.zi1, (na z (by simp)).symm], zf2 := by simp [D.zi2, (nb z (by simp)).symm], Tf1 := by simp [D.TOi1, (na TO (by simp)).symm], Tf2 := by simp [D.TOi2, (nb TO (by simp)).symm],
        sep1_2 := by simp [D.i12, (nb i1 (by simp)).symm], sep2_1 := by simp [D.i12.symm, (na i2 (by simp)).symm] }
    have W := GoesN.zip2 (prog := X.prog) (w := X.w) (A := X.A) (elts := elts) (x1 := kk) (pos := tpos) SP (drawsB (A := X.A.in1) hh k i1 a (na i1 (by simp)) its.toArray) (drawsB (A := X.A.in1) hh j i2 b (nb i2 (by simp)) its2.toArray)
    have l1 := rv.length
    have l2 := rv2.length
    have hi : min its.toArray.size its2.toArray.size = i := by simp only [List.size_toArray]; omega
    exact W.stops s (fun s1 => Inv X pins σ H s1) E (by rw [hi]; exact ⟨hz, hTI, ⟨x0, y0, hTO⟩, ⟨h1, p⟩, h2, p2⟩) fun h' tk hk _ => I.turnedL (ch := [z, TI, TO, i1, i2]) (fun c o hb q => hk c o (fun hm => hb (by
        have : c = z ∨ c = TO ∨ c = i1 ∨ c = i2 := by simpa using hm
        rcases this with q | q | q | q <;> simp [q])) q) hf
  self := fun A i s Q E st h => wpAny_pyIter_zip st.1 h
def iZp (K : PySem.W.Frag) (ta : TA) : TI := fun σ H R => ta σ H fun vs H1 => ∃ k j a b xs ys, vs = [.ref a, .ref b] ∧ SqB k K H1 a xs ∧ SqB j K H1 b ys ∧ R (ItZp k j K a b) H1
theorem pi_zp {X : Cx} {e e2 : Expr} {ta : TA} {p pos tpos : Pos} {elts : List Expr} {kk : Nat} (hg : Gl X "zip") (hm : X.mg "zip" = none) (ha : PA X [e, e2] ta)
    (hs : starEach [e, e2] X.env = (false, eval e X.env) :: starEach [e2] X.env := by rfl) (hpl : (backTo pos (starEach [e2] X.env)).any (·.1) = false := by rfl) :
    PI X (.Tuple elts kk tpos) (.Call (.Name "zip" p) [e, e2] [] pos) (iZp X.K ta) := by
  refine ⟨fun pins s σ H R I h => ?_⟩
  refine Call_ (ld_blt I hg hm PyProof.Rows.boot_zip (PyProof.Rows.callWith_type1 (thn (ha.run pos pins s σ H _ I h) fun us s1 ⟨vs, H1, I1, r1, q1⟩ => ?_) hs hpl))
  obtain ⟨k, j, a, b, xs, ys, ex, hqa, hqb, q⟩ := q1
  subst ex
  obtain ⟨u, u', rfl, ra, rb⟩ := vals2 r1
  cases ra
  cases rb
  obtain ⟨its, rv, p1, hz⟩ := sqB_inv I1 hqa
  obtain ⟨its2, rv2, p2, hz2⟩ := sqB_inv I1 hqb
  refine zip_begins2 (beginsB k a its.toArray) (beginsB j b its2.toArray) p1 p2 fun h' hz hTI hTO h1 h2 hsz hk => wpAny_pyIter_zip hz ?_
  have I2 : Inv X pins σ H1 { s1 with heap := h' } := I1.kept (t' := s1.toks) hk
  generalize hN : s1.heap.objs.size = n at *
  have D : ZpApart (n + 4) (n + 2) (n + 3) n (n + 1) :=
    ⟨show (n + 2 : Nat) ≠ n + 4 by omega, show (n + 3 : Nat) ≠ n + 4 by omega, show (n + 2 : Nat) ≠ n + 3 by omega, show (n + 2 : Nat) ≠ n by omega, show (n + 2 : Nat) ≠ n + 1 by omega,
      show (n + 4 : Nat) ≠ n by omega, show (n + 4 : Nat) ≠ n + 1 by omega, show (n + 3 : Nat) ≠ n by omega, show (n + 3 : Nat) ≠ n + 1 by omega, show (n : Nat) ≠ n + 1 by omega⟩
  refine ⟨n + 4, [n + 4, n + 2, n + 3, n, n + 1], _, _, H1, rfl, I2, turn_zp k j D, ⟨hz, hTI, ⟨_, _, hTO⟩, itB_begin h1, itB_begin h2⟩, fun c hc => ?_, q⟩
  have hle : s1.heap.objs.size ≤ c := by
    rw [hN]
    have e' : c = n + 4 ∨ c = n + 2 ∨ c = n + 3 ∨ c = n ∨ c = n + 1 := by simpa using hc
    rcases e' with z | z | z | z | z <;> rw [z]
    · exact (show (n : Nat) ≤ n + 4 by omega)
    · exact (show (n : Nat) ≤ n + 2 by omega)
    · exact (show (n : Nat) ≤ n + 3 by omega)
    · exact Nat.le_refl n
    · exact (show (n : Nat) ≤ n + 1 by omega)
  exact I1.fpOk hle (I1.hok.fresh hle)

/-! ### what a for or a comprehension walks, by data -/
/-- a list's or a tuple's data, and what must stand still -/
def seqOf (L : Sto) (d : D) : Option (List D × List (Nat × D)) := match d with
  | .lst xs => some (xs, [])
  | .ro xs => some (xs, [])
  | .tup xs => some (xs, [])
  | .tg xs => some (xs, [])
  | .loc n => (match L[n]? with
    | some (.lst xs) => some (xs, [(n, .lst xs)])
    | _ => none)
  | _ => none
theorem DenL.get {G : Gb} {w : Wd} : ∀ {vs : List V} {ds : List D} {i : Nat} {d : D}, DenL G w vs ds → ds[i]? = some d → ∃ v, vs[i]? = some v ∧ Den G w v d
  | _, _, _, _, .nil, e => by simp at e
  | _, _, 0, _, .cons a t, e => by simp at e; subst e; exact ⟨_, rfl, a⟩
  | _, _, i + 1, _, .cons a t, e => by simpa using DenL.get t (by simpa using e)
theorem seq_at {G : Gb} {w : Wd} {L : Sto} {H : Hp} {v : V} {d : D} {xs : List D} {s : List (Nat × D)} (h : Den G w v d) (e : seqOf L d = some (xs, s)) :
    ∃ k a, v = .ref a ∧ ∀ w' L' H', w.le0 w' → Rel G w' L' H' → srcOk L' s → ∃ vs, SqB k G.K H' a vs ∧ DenL G w' vs xs := by
  cases h with
  | @tup a vs ds hq r =>
    cases e
    exact ⟨false, a, rfl, fun w' L' H' l R _ => ⟨vs, R.sqT (SqT.le0 l hq), DenL.le0 l r⟩⟩
  | @tg a vs ds hq r =>
    cases e
    exact ⟨false, a, rfl, fun w' L' H' l R _ => ⟨vs, R.sqT (SqT.le0 l hq.t), DenL.le0 l r⟩⟩
  | @lst a vs ds hq r =>
    cases e
    exact ⟨true, a, rfl, fun w' L' H' l R _ => ⟨vs, .inl (.inl (R.sub _ _ (l.dir _ _ hq))), DenL.le0 l r⟩⟩
  | @ro a vs ds hq r =>
    cases e
    exact ⟨true, a, rfl, fun w' L' H' l R _ => ⟨vs, R.sqL (SqL.le0 l hq), DenL.le0 l r⟩⟩
  | @loc n a hn =>
    dsimp only [seqOf] at e
    split at e
    · rename_i ys hy
      cases e
      refine ⟨true, a, rfl, fun w' L' H' l R so => ?_⟩
      obtain ⟨o, h1, h2⟩ := R.box n a _ (l.pre _ _ hn) (so (n, .lst xs) (by simp))
      cases h2 with
      | lst r => exact ⟨_, .inl (.inl h1), r⟩
    · cases e
  | _ => cases e
theorem seq_src {L : Sto} {d : D} {xs : List D} {s : List (Nat × D)} (e : seqOf L d = some (xs, s)) : srcOk L s := by
  cases d with
  | tup ds => cases e; intro p hp; cases hp
  | tg ds => cases e; intro p hp; cases hp
  | lst ds => cases e; intro p hp; cases hp
  | ro ds => cases e; intro p hp; cases hp
  | loc n =>
    dsimp only [seqOf] at e
    split at e
    · rename_i ys hy
      cases e
      intro p hp
      have := List.mem_singleton.mp hp
      subst this
      exact hy
    · cases e
  | _ => cases e
section
variable {S : Sc} {W : WX} {a b e c tg : Expr} {f fa fb : EF} {fl : AF} {pos p : Pos}
def iSeq (f : EF) : IF := fun ρ L => (f ρ L).bind fun d L1 => match seqOf L1 d with
  | some (xs, s) => .ok ⟨xs, s⟩ L1
  | none => .bad
theorem pi_or {X : Cx} {tg e : Expr} {t u : TI} (h : PI X tg e t) (k : PI X tg e u) : PI X tg e (fun σ H R => t σ H R ∨ u σ H R) := ⟨fun pins s σ H R I q => q.elim (h.run pins s σ H R I) (k.run pins s σ H R I)⟩
/-- the walked thing's value first -/
theorem PostI.bind {G : Gb} {α β : Type} {rel : Wd → β → α → Prop} {w : Wd} {r : Res α} {k : α → Sto → Res Its} {R : It → Hp → Prop} {E : XK} (p : PostI G w (r.bind k) R E) :
    Post G rel w r (fun v H => ∃ w' a L, w.le w' ∧ Rel G w' L H ∧ rel w' v a ∧ PostI G w' (k a L) R E) E := by
  cases r with
  | ok a L =>
    refine fun w2 H v l R0 d => ⟨w2, a, L, l, R0, d, ?_⟩
    have p' : PostI G w (k a L) R E := p
    cases hk : k a L with
    | ok its L2 => rw [hk] at p'; exact fun w3 H3 J l3 R3 so io => p' w3 H3 J (l.trans l3) R3 so io
    | err c x L2 => rw [hk] at p'; exact fun w3 H3 dx l3 R3 x3 C m => p' w3 H3 dx (l.trans l3) R3 x3 C m
    | bad => rw [hk] at p'; exact p'
  | err c q L => exact p
  | bad => exact p
def ItS (k : Bool) (K : PySem.W.Frag) (a : Addr) : It := match k with
  | true => Itl K a
  | false => Itt K a
theorem itOk_seq {G : Gb} {w : Wd} {k : Bool} {a : Addr} {xs : List D} {s : List (Nat × D)} (h : ∀ w' L' H', w.le0 w' → Rel G w' L' H' → srcOk L' s → ∃ vs, SqB k G.K H' a vs ∧ DenL G w' vs xs) :
    ItOk G w s (ItS k G.K a) xs := by
  intro w1 L1 H1 l R so i
  obtain ⟨vs, hq, r⟩ := h w1 L1 H1 l R so
  refine ⟨fun d hd => ?_, fun hi => ?_⟩
  · obtain ⟨v, hv, dv⟩ := r.get hd
    cases k with
    | true => exact ⟨⟨vs, v, hq, hv⟩, fun x H' ⟨e, y⟩ => by subst e; have := y vs hq; rw [hv] at this; cases this; exact ⟨w1, .refl _, R, dv⟩⟩
    | false => exact ⟨⟨vs, v, hq, hv⟩, fun x H' ⟨e, y⟩ => by subst e; have := y vs hq; rw [hv] at this; cases this; exact ⟨w1, .refl _, R, dv⟩⟩
  · have hl := r.length
    cases k with
    | true => exact ⟨vs, hq, by omega⟩
    | false => exact ⟨vs, hq, by omega⟩
theorem si_seq (he : SE S W e f) : SI S W tg e (iSeq f) := fun X h => by
  have hp : PI X tg e (fun σ H R => iList X.K (tR S.g (Den S.g) W f) σ H R ∨ iTup X.K (tR S.g (Den S.g) W f) σ H R) := pi_or (pi_list (he X h)) (pi_tup (he X h))
  refine PI.imp hp fun σ H R ⟨w, ρ, L, R0, e, p⟩ => ?_
  rw [← h.K]
  unfold iSeq at p
  cases q : f ρ L with
  | bad => rw [q] at p; exact p.elim
  | err c x L1 => rw [q] at p; exact .inl ⟨w, ρ, L, R0, e, by rw [q]; exact p⟩
  | ok d L1 =>
    rw [q] at p
    dsimp only [Res.bind] at p
    split at p
    · rename_i xs s hs
      have mk : ∀ (kk : Bool), (∀ (w1 : Wd) (H1 : Hp) (v : V), w.le w1 → Rel S.g w1 L1 H1 → Den S.g w1 v d → ∃ a, v = .ref a ∧ (∃ vs, SqB kk S.g.K H1 a vs) ∧ R (ItS kk S.g.K a) H1) →
          iList S.g.K (tR S.g (Den S.g) W f) σ H R ∨ iTup S.g.K (tR S.g (Den S.g) W f) σ H R := by
        intro kk hk
        cases kk with
        | true => exact .inl ⟨w, ρ, L, R0, e, by rw [q]; exact fun w1 H1 v l R1 dv => hk w1 H1 v l R1 dv⟩
        | false => exact .inr ⟨w, ρ, L, R0, e, by rw [q]; exact fun w1 H1 v l R1 dv => hk w1 H1 v l R1 dv⟩
      have kd : ∀ d : D, seqOf L1 d = some (xs, s) → ∃ kk : Bool, ∀ (w1 : Wd) (v : V), Den S.g w1 v d → ∃ a, v = .ref a ∧ ∀ w' L' H', w1.le0 w' → Rel S.g w' L' H' → srcOk L' s → ∃ vs, SqB kk S.g.K H' a vs ∧ DenL S.g w' vs xs := by
        intro d hs
        cases d with
        | tup ds => exact ⟨false, fun w1 v dv => by cases dv with | tup hq r => cases hs; exact ⟨_, rfl, fun w' L' H' l R _ => ⟨_, R.sqT (SqT.le0 l hq), DenL.le0 l r⟩⟩⟩
        | tg ds => exact ⟨false, fun w1 v dv => by cases dv with | tg hq r => cases hs; exact ⟨_, rfl, fun w' L' H' l R _ => ⟨_, R.sqT (SqT.le0 l hq.t), DenL.le0 l r⟩⟩⟩
        | lst ds => exact ⟨true, fun w1 v dv => by cases dv with | lst hq r => cases hs; exact ⟨_, rfl, fun w' L' H' l R _ => ⟨_, .inl (.inl (R.sub _ _ (l.dir _ _ hq))), DenL.le0 l r⟩⟩⟩
        | ro ds => exact ⟨true, fun w1 v dv => by cases dv with | ro hq r => cases hs; exact ⟨_, rfl, fun w' L' H' l R _ => ⟨_, R.sqL (SqL.le0 l hq), DenL.le0 l r⟩⟩⟩
        | loc n =>
          refine ⟨true, fun w1 v dv => ?_⟩
          obtain ⟨k, a, ea, hk⟩ := seq_at (H := H) dv hs
          cases dv with
          | loc hn =>
            cases ea
            refine ⟨_, rfl, fun w' L' H' l R so => ?_⟩
            dsimp only [seqOf] at hs
            split at hs
            · rename_i ys hy
              cases hs
              obtain ⟨o, h1, h2⟩ := R.box n _ _ (l.pre _ _ hn) (so (n, .lst xs) (by simp))
              cases h2 with
              | lst r => exact ⟨_, .inl (.inl h1), r⟩
            · cases hs
        | _ => cases hs
      obtain ⟨kk, hkk⟩ := kd d hs
      refine mk kk fun w1 H1 v l R1 dv => ?_
      obtain ⟨a, ea, ha⟩ := hkk w1 v dv
      have so := seq_src hs
      obtain ⟨vs, hq, _⟩ := ha w1 L1 H1 (.refl _) R1 so
      exact ⟨a, ea, ⟨vs, hq⟩, p w1 H1 _ l R1 so (itOk_seq ha)⟩
    · exact p.elim
def rangeD (lo : Int) (n : Nat) : List D := (List.range n).map fun (i : Nat) => D.int (lo + (i : Int))
def small62 (i : Int) : Bool := decide (-4611686018427387904 ≤ i ∧ i < 4611686018427387904)
def iRange1 (f : AF) : IF := fun ρ L => (f ρ L).bind fun ds L1 => match ds with
  | [.int j] => if small62 j = true then .ok ⟨rangeD 0 j.toNat, []⟩ L1 else .bad
  | _ => .bad
def iRange2 (f : AF) : IF := fun ρ L => (f ρ L).bind fun ds L1 => match ds with
  | [.int i, .int j] => if small62 i = true ∧ small62 j = true then .ok ⟨rangeD i (j - i).toNat, []⟩ L1 else .bad
  | _ => .bad
theorem itOk_range {G : Gb} {w : Wd} {lo : Int} {n : Nat} : ItOk G w [] (Itr lo n) (rangeD lo n) := by
  intro w1 L1 H1 l R so i
  unfold rangeD
  refine ⟨fun d hd => ?_, fun hi => ?_⟩
  · rw [List.getElem?_map] at hd
    obtain ⟨k, hk, rfl⟩ := Option.map_eq_some_iff.mp hd
    have hk2 := getElem?_lt hk
    rw [List.length_range] at hk2
    rw [List.getElem?_range hk2] at hk
    cases hk
    exact ⟨hk2, fun x H' ⟨e, y⟩ => by subst e; rw [y]; exact ⟨w1, .refl _, R, .int _⟩⟩
  · have : (List.range n).length ≤ i := by rw [hi]; simp
    rw [List.length_range] at this
    exact this
theorem small62_ok {i : Int} (h : small62 i = true) : -(2 ^ 62) ≤ i ∧ i < 2 ^ 62 := by
  have := of_decide_eq_true h
  exact ⟨by omega, by omega⟩
theorem si_range1 (ha : SA S W [a] fl) (hg : Glb S "range" := by rfl) (hm : S.g.mg "range" = none := by assumption) (hs : ∀ env, starEach [a] env = [(false, eval a env)] := by intro _; rfl) :
    SI S W tg (.Call (.Name "range" p) [a] [] pos) (iRange1 fl) := fun X h =>
  PI.imp (pi_range1 (by show X.env.scope.names.lookup _ = _; rw [← h.sc]; exact hg) (by rw [← h.mg]; exact hm) (ha X h) (hs _)) fun σ H R ⟨w, ρ, L, R0, e, q⟩ =>
    ⟨w, ρ, L, R0, e, (PostI.bind (rel := DenL S.g) q).imp (fun vs H1 ⟨w1, ds, L1, l1, R1, d1, p1⟩ => by
      split at p1
      · rename_i j
        split at p1
        · rename_i hj
          cases d1 with
          | cons x t =>
            cases t
            cases x
            obtain ⟨k1, k2⟩ := small62_ok hj
            exact ⟨j, rfl, k1, k2, p1 w1 H1 _ (.refl _) R1 (fun _ z => nomatch z) itOk_range⟩
        · exact p1.elim
      · exact p1.elim) fun _ _ _ z => z⟩
theorem si_range2 (ha : SA S W [a, b] fl) (hg : Glb S "range" := by rfl) (hm : S.g.mg "range" = none := by assumption)
    (hs : ∀ env, starEach [a, b] env = [(false, eval a env), (false, eval b env)] := by intro _; rfl) (hs2 : ∀ env, starEach [b] env = [(false, eval b env)] := by intro _; rfl) :
    SI S W tg (.Call (.Name "range" p) [a, b] [] pos) (iRange2 fl) := fun X h =>
  PI.imp (pi_range2 (by show X.env.scope.names.lookup _ = _; rw [← h.sc]; exact hg) (by rw [← h.mg]; exact hm) (ha X h) (hs _) (hs2 _)) fun σ H R ⟨w, ρ, L, R0, e, q⟩ =>
    ⟨w, ρ, L, R0, e, (PostI.bind (rel := DenL S.g) q).imp (fun vs H1 ⟨w1, ds, L1, l1, R1, d1, p1⟩ => by
      split at p1
      · rename_i i j
        split at p1
        · rename_i hj
          cases d1 with
          | cons x t =>
            cases t with
            | cons y t =>
              cases t
              cases x
              cases y
              obtain ⟨k1, k2⟩ := small62_ok hj.1
              obtain ⟨k3, k4⟩ := small62_ok hj.2
              exact ⟨i, j, rfl, ⟨k1, k2, k3, k4⟩, p1 w1 H1 _ (.refl _) R1 (fun _ z => nomatch z) itOk_range⟩
        · exact p1.elim
      · exact p1.elim) fun _ _ _ z => z⟩
def enumD : Nat → List D → List D
  | _, [] => []
  | i, d :: ds => .tup [.int (i : Int), d] :: enumD (i + 1) ds
theorem enumD_get : ∀ {ds : List D} {i j : Nat}, (enumD j ds)[i]? = (ds[i]?).map fun d => D.tup [.int ((j + i : Nat) : Int), d]
  | [], i, j => by simp [enumD]
  | d :: ds, 0, j => by simp [enumD]
  | d :: ds, i + 1, j => by
    show (enumD (j + 1) ds)[i]? = _
    rw [enumD_get, show j + 1 + i = j + (i + 1) by omega]
    simp
theorem enumD_length : ∀ {ds : List D} {j : Nat}, (enumD j ds).length = ds.length
  | [], _ => rfl
  | _ :: ds, j => by simp [enumD, enumD_length]
theorem newPair {G : Gb} {w1 : Wd} {L1 : Sto} {H H' : Hp} (R : Rel G w1 L1 H) {T : Addr} {x y : V} {d e : D} (hT : H T = none) (hH : H' = upd H T (.tup [x, y])) (dx : Den G w1 x d) (dy : Den G w1 y e) :
    ∃ w', w1.le w' ∧ Rel G w' L1 H' ∧ Den G w' (.ref T) (.tup [d, e]) := by
  obtain ⟨R2, l2⟩ := R.newF (o := .tup [x, y]) hT
  exact ⟨_, l2, by rw [hH]; exact R2, .tup (.inl (.inl upd_same)) (.cons (dx.le l2) (.cons (dy.le l2) .nil))⟩
def iEnumF (f : AF) : IF := fun ρ L => (f ρ L).bind fun ds L1 => match ds with
  | [d] => (match seqOf L1 d with
    | some (xs, s) => .ok ⟨enumD 0 xs, s⟩ L1
    | none => .bad)
  | _ => .bad
theorem si_enum {elts : List Expr} {kk : Nat} {tpos : Pos} (ha : SA S W [a] fl) (hg : Glb S "enumerate" := by rfl) (hm : S.g.mg "enumerate" = none := by assumption) (hs : ∀ env, starEach [a] env = [(false, eval a env)] := by intro _; rfl) :
    SI S W (.Tuple elts kk tpos) (.Call (.Name "enumerate" p) [a] [] pos) (iEnumF fl) := fun X h =>
  PI.imp (pi_en (by show X.env.scope.names.lookup _ = _; rw [← h.sc]; exact hg) (by rw [← h.mg]; exact hm) (ha X h) (hs _)) fun σ H R ⟨w, ρ, L, R0, e, q⟩ =>
    ⟨w, ρ, L, R0, e, (PostI.bind (rel := DenL S.g) q).imp (fun vs H1 ⟨w1, ds, L1, l1, R1, d1, p1⟩ => by
      split at p1
      · rename_i d
        split at p1
        · rename_i xs s hs
          cases d1 with
          | cons x t =>
            cases t
            obtain ⟨k, a, ea, hk⟩ := seq_at (H := H1) x hs
            subst ea
            have so := seq_src hs
            obtain ⟨vs, hq, _⟩ := hk w1 L1 H1 (.refl _) R1 so
            rw [← h.K]
            refine ⟨k, a, vs, rfl, hq, p1 w1 H1 _ (.refl _) R1 so fun w2 L2 H2 l2 R2 so2 i => ?_⟩
            obtain ⟨us, hq2, r2⟩ := hk w2 L2 H2 l2 R2 so2
            refine ⟨fun d hd => ?_, fun hi => ⟨us, hq2, ?_⟩⟩
            · rw [enumD_get, Nat.zero_add] at hd
              obtain ⟨d', hd', rfl⟩ := Option.map_eq_some_iff.mp hd
              obtain ⟨v, hv, dv⟩ := r2.get hd'
              refine ⟨⟨us, v, hq2, hv⟩, fun x H' ⟨T, y, ex, hT, hH, hy⟩ => ?_⟩
              have := hy us hq2
              rw [hv] at this; cases this
              subst ex
              exact newPair R2 hT hH (.int _) dv
            · rw [enumD_length] at hi; rw [r2.length]; exact hi
        · exact p1.elim
      · exact p1.elim) fun _ _ _ z => z⟩
def zipD (xs ys : List D) : List D := List.zipWith (fun x y => D.tup [x, y]) xs ys
def iZipF (f : AF) : IF := fun ρ L => (f ρ L).bind fun ds L1 => match ds with
  | [d, e] => (match seqOf L1 d, seqOf L1 e with
    | some (xs, s), some (ys, t) => .ok ⟨zipD xs ys, s ++ t⟩ L1
    | _, _ => .bad)
  | _ => .bad
theorem si_zip {elts : List Expr} {kk : Nat} {tpos : Pos} (ha : SA S W [a, b] fl) (hg : Glb S "zip" := by rfl) (hm : S.g.mg "zip" = none := by assumption)
    (hs : ∀ env, starEach [a, b] env = (false, eval a env) :: starEach [b] env := by intro _; rfl) (hpl : ∀ env, (backTo pos (starEach [b] env)).any (·.1) = false := by intro _; rfl) :
    SI S W (.Tuple elts kk tpos) (.Call (.Name "zip" p) [a, b] [] pos) (iZipF fl) := fun X h =>
  PI.imp (pi_zp (by show X.env.scope.names.lookup _ = _; rw [← h.sc]; exact hg) (by rw [← h.mg]; exact hm) (ha X h) (hs _) (hpl _)) fun σ H R ⟨w, ρ, L, R0, e, q⟩ =>
    ⟨w, ρ, L, R0, e, (PostI.bind (rel := DenL S.g) q).imp (fun vs H1 ⟨w1, ds, L1, l1, R1, d1, p1⟩ => by
      split at p1
      · rename_i d e
        split at p1
        · rename_i xs s ys t hs1 hs2
          cases d1 with
          | cons x tt =>
            cases tt with
            | cons y tt =>
              cases tt
              obtain ⟨k, a, ea, hk⟩ := seq_at (H := H1) x hs1
              obtain ⟨j, b, eb, hj⟩ := seq_at (H := H1) y hs2
              subst ea eb
              have so1 := seq_src hs1
              have so2 := seq_src hs2
              have so : srcOk L1 (s ++ t) := fun p hp => (List.mem_append.mp hp).elim (so1 p) (so2 p)
              obtain ⟨vs, hq, _⟩ := hk w1 L1 H1 (.refl _) R1 so1
              obtain ⟨us, hq', _⟩ := hj w1 L1 H1 (.refl _) R1 so2
              rw [← h.K]
              refine ⟨k, j, a, b, vs, us, rfl, hq, hq', p1 w1 H1 _ (.refl _) R1 so fun w2 L2 H2 l2 R2 so3 i => ?_⟩
              obtain ⟨vs2, hq2, r2⟩ := hk w2 L2 H2 l2 R2 fun p hp => so3 p (List.mem_append_left _ hp)
              obtain ⟨us2, hq3, r3⟩ := hj w2 L2 H2 l2 R2 fun p hp => so3 p (List.mem_append_right _ hp)
              refine ⟨fun d hd => ?_, fun hi => ⟨vs2, us2, hq2, hq3, ?_⟩⟩
              · unfold zipD at hd
                rw [List.getElem?_zipWith] at hd
                cases q1 : xs[i]? with
                | none => rw [q1] at hd; cases hd
                | some x1 =>
                  cases q2 : ys[i]? with
                  | none => rw [q1, q2] at hd; cases hd
                  | some y1 =>
                    rw [q1, q2] at hd
                    cases hd
                    obtain ⟨v, hv, dv⟩ := r2.get q1
                    obtain ⟨u, hu, du⟩ := r3.get q2
                    refine ⟨⟨vs2, us2, v, u, hq2, hq3, hv, hu⟩, fun x H' ⟨T, y, z, ex, hT, hH, hy, hz⟩ => ?_⟩
                    have e1 := hy vs2 hq2
                    have e2 := hz us2 hq3
                    rw [hv] at e1; cases e1
                    rw [hu] at e2; cases e2
                    subst ex
                    exact newPair R2 hT hH dv du
              · rw [r2.length, r3.length]
                unfold zipD at hi
                rw [List.length_zipWith] at hi; exact hi
        · exact p1.elim
      · exact p1.elim) fun _ _ _ z => z⟩
end
end DS
set_option Elab.async false
set_option linter.all false
set_option maxRecDepth 100000
set_option maxHeartbeats 4000000
namespace DS
open PySem PySem.Spec L2
open PyProof.Rows hiding St

/-! ### lists by data -/
def lstOf (L : Sto) (d : D) : Option (List D) := match d with
  | .lst xs => some xs
  | .loc n => (match L[n]? with
    | some (.lst xs) => some xs
    | _ => none)
  | _ => none
theorem lst_at {G : Gb} {w : Wd} {L : Sto} {H : Hp} {v : V} {d : D} {xs : List D} (R : Rel G w L H) (h : Den G w v d) (e : lstOf L d = some xs) : ∃ a vs, v = .ref a ∧ H a = some (.lst vs) ∧ DenL G w vs xs := by
  cases h with
  | @lst a vs ds hq r => cases e; exact ⟨a, vs, rfl, R.sub _ _ hq, r⟩
  | @loc n a hn =>
    dsimp only [lstOf] at e
    split at e
    · rename_i ys hy
      cases e
      obtain ⟨o, h1, h2⟩ := R.box n a _ hn hy
      cases h2 with
      | lst r => exact ⟨a, _, rfl, h1, r⟩
    · cases e
  | _ => cases e
theorem DenL.append {G : Gb} {w : Wd} : ∀ {vs us : List V} {ds es : List D}, DenL G w vs ds → DenL G w us es → DenL G w (vs ++ us) (ds ++ es)
  | _, _, _, _, .nil, k => k
  | _, _, _, _, .cons a t, k => .cons a (DenL.append t k)
theorem DenL.take {G : Gb} {w : Wd} : ∀ {vs : List V} {ds : List D} (n : Nat), DenL G w vs ds → DenL G w (vs.take n) (ds.take n)
  | _, _, 0, _ => .nil
  | _, _, _ + 1, .nil => .nil
  | _, _, n + 1, .cons a t => .cons a (DenL.take n t)
theorem DenL.drop {G : Gb} {w : Wd} : ∀ {vs : List V} {ds : List D} (n : Nat), DenL G w vs ds → DenL G w (vs.drop n) (ds.drop n)
  | _, _, 0, h => h
  | _, _, _ + 1, .nil => .nil
  | _, _, n + 1, .cons a t => DenL.drop n t
theorem DenL.reverse {G : Gb} {w : Wd} {vs : List V} {ds : List D} (h : DenL G w vs ds) : DenL G w vs.reverse ds.reverse := by
  induction vs generalizing ds with
  | nil => cases h; exact .nil
  | cons v vs ih => cases h with | cons a t => rw [List.reverse_cons, List.reverse_cons]; exact (ih t).snoc a
theorem DenL.set {G : Gb} {w : Wd} {v : V} {d : D} (h : Den G w v d) : ∀ {vs : List V} {ds : List D} (n : Nat), DenL G w vs ds → DenL G w (vs.set n v) (ds.set n d)
  | _, _, _, .nil => .nil
  | _, _, 0, .cons a t => .cons h t
  | _, _, n + 1, .cons a t => .cons a (DenL.set h n t)
theorem DenL.eraseIdx {G : Gb} {w : Wd} : ∀ {vs : List V} {ds : List D} (n : Nat), DenL G w vs ds → DenL G w (vs.eraseIdx n) (ds.eraseIdx n)
  | _, _, _, .nil => .nil
  | _, _, 0, .cons a t => t
  | _, _, n + 1, .cons a t => .cons a (DenL.eraseIdx n t)
theorem DenL.get' {G : Gb} {w : Wd} : ∀ {vs : List V} {ds : List D} {i : Nat} {v : V}, DenL G w vs ds → vs[i]? = some v → ∃ d, ds[i]? = some d ∧ Den G w v d
  | _, _, _, _, .nil, e => by simp at e
  | _, _, 0, _, .cons a t, e => by simp at e; subst e; exact ⟨_, rfl, a⟩
  | _, _, i + 1, _, .cons a t, e => by simpa using DenL.get' t (by simpa using e)
def dInts : List D → Option (List Int)
  | [] => some []
  | .int i :: r => (dInts r).map (i :: ·)
  | _ :: _ => none
theorem DenL.ints {G : Gb} {w : Wd} : ∀ {vs : List V} {ds : List D} {ns : List Int}, DenL G w vs ds → dInts ds = some ns → vs = ns.map V.int
  | _, _, _, .nil, e => by cases e; rfl
  | _, _, _, .cons a t, e => by
    cases a with
    | int i =>
      obtain ⟨ns, h, rfl⟩ := Option.map_eq_some_iff.mp e
      rw [DenL.ints t h] <;> rfl
    | _ => cases e
theorem DenL.of_ints {G : Gb} {w : Wd} : ∀ (ns : List Int), DenL G w (ns.map V.int) (ns.map D.int)
  | [] => .nil
  | n :: ns => .cons (.int n) (DenL.of_ints ns)
def dBls : List D → Option (List Bool)
  | [] => some []
  | .bl i :: r => (dBls r).map (i :: ·)
  | _ :: _ => none
theorem DenL.bls {G : Gb} {w : Wd} : ∀ {vs : List V} {ds : List D} {ns : List Bool}, DenL G w vs ds → dBls ds = some ns → vs = ns.map V.bl
  | _, _, _, .nil, e => by cases e; rfl
  | _, _, _, .cons a t, e => by
    cases a with
    | bl i =>
      obtain ⟨ns, h, rfl⟩ := Option.map_eq_some_iff.mp e
      rw [DenL.bls t h] <;> rfl
    | _ => cases e
/-- a new list, a new tuple -/
def newL (xs : List D) (L : Sto) : Res D := if xs.length ≤ 16777216 then .ok (.lst xs) L else .bad
def newT (xs : List D) (L : Sto) : Res D := if xs.length ≤ 16777216 then .ok (.tup xs) L else .bad
section
variable {G : Gb} {w : Wd} {L : Sto} {H : Hp} {vs : List V} {xs : List D} {Q : VK} {E : XK}
theorem lineLe {n : Nat} (h : n ≤ 16777216) : n ≤ sizeLine := by rw [sizeLine_eq]; exact h
theorem lineLt {n : Nat} (h : n < 16777216) : n < sizeLine := by rw [sizeLine_eq]; exact h
theorem newL_post (p : Post G (Den G) w (newL xs L) Q E) : vs.length = xs.length → vs.length ≤ sizeLine := by
  unfold newL at p
  split at p
  · rename_i h; intro e; rw [e]; exact lineLe h
  · exact p.elim
theorem newL_go (p : Post G (Den G) w (newL xs L) Q E) (R : Rel G w L H) (d : DenL G w vs xs) (q : Addr) (hq : H q = none) : Q (.ref q) (upd H q (.lst vs)) := by
  unfold newL at p
  split at p
  · obtain ⟨R2, l2⟩ := R.newF (o := .lst vs) hq
    exact p _ _ _ l2 R2 (.lst upd_same (d.le l2))
  · exact p.elim
theorem newT_post (p : Post G (Den G) w (newT xs L) Q E) : vs.length = xs.length → vs.length ≤ sizeLine := by
  unfold newT at p
  split at p
  · rename_i h; intro e; rw [e]; exact lineLe h
  · exact p.elim
theorem newT_go (p : Post G (Den G) w (newT xs L) Q E) (R : Rel G w L H) (d : DenL G w vs xs) (q : Addr) (hq : H q = none) : Q (.ref q) (upd H q (.tup vs)) := by
  unfold newT at p
  split at p
  · obtain ⟨R2, l2⟩ := R.newF (o := .tup vs) hq
    exact p _ _ _ l2 R2 (.tup (.inl (.inl upd_same)) (d.le l2))
  · exact p.elim
end

/-! ### arithmetic -/
def gAdd0 (d e : D) (L : Sto) : Res D := match d, e with
  | .int i, .int j => .ok (.int (i + j)) L
  | .str a, .str b => if a.length + b.length ≤ 16777216 then .ok (.str (a ++ b)) L else .bad
  | .tup xs, .tup ys => newT (xs ++ ys) L
  | d, e => (match lstOf L d, lstOf L e with
    | some xs, some ys => newL (xs ++ ys) L
    | _, _ => .bad)
def gAdd (d e : D) (L : Sto) : Res D := gAdd0 (lo d) (lo e) L
def gSub (d e : D) (L : Sto) : Res D := match d, e with
  | .int i, .int j => .ok (.int (i - j)) L
  | _, _ => .bad
def gMul0 (d e : D) (L : Sto) : Res D := match d, e with
  | .int i, .int j => if (-(2 ^ 64) < i ∧ i < 2 ^ 64) ∨ (-(2 ^ 64) < j ∧ j < 2 ^ 64) then .ok (.int (i * j)) L else .bad
  | .tup xs, .int k => if xs ≠ [] ∧ 2 ≤ k ∧ k ≤ 1000 ∧ xs.length ≤ 1000 then .ok (.tup (List.replicate k.toNat xs).flatten) L else .bad
  | d, .int k => (match lstOf L d with
    | some xs => if -(2 ^ 63) ≤ k ∧ k < 2 ^ 63 ∧ xs.length * k.toNat ≤ 16777216 then .ok (.lst (List.replicate k.toNat xs).flatten) L else .bad
    | _ => .bad)
  | _, _ => .bad
def gMul (d e : D) (L : Sto) : Res D := gMul0 (lo d) e L
def gDiv (d e : D) (L : Sto) : Res D := match d, e with
  | .int i, .int j => if 0 < j ∧ j.natAbs < 2 ^ 64 then .ok (.int (i / j)) L else .bad
  | _, _ => .bad
def gMod (d e : D) (L : Sto) : Res D := match d, e with
  | .int i, .int j => if 0 < j then .ok (.int (i % j)) L else .bad
  | _, _ => .bad
def gPow (d e : D) (L : Sto) : Res D := match d, e with
  | .int i, .int j => if 0 ≤ j ∧ j ≤ 1000 ∧ i.natAbs < 2 ^ 1000 then .ok (.int (i ^ j.toNat)) L else .bad
  | _, _ => .bad
def gNeg (d : D) (L : Sto) : Res D := match d with
  | .int i => .ok (.int (-i)) L
  | _ => .bad
def rPowW : R2 := rI (fun i j => 0 ≤ j ∧ j ≤ 1000 ∧ i.natAbs < 2 ^ 1000) fun i j => .int (i ^ j.toNat)
theorem op_powW {X : Cx} : OpR X (binaryOp .Pow) rPowW := opI fun i j t u s Q E hc q => by
  obtain ⟨h0, h1, h2⟩ := hc
  refine PyProof.Rows.pow_int h0 ?_ q
  have hb : (Builtin.Int.intBits i : Int) ≤ 1001 := by
    have : Builtin.Int.intBits i ≤ i.natAbs.log2 + 1 := by
      unfold Builtin.Int.intBits
      split <;> omega
    have h3 := PySem.Flt.log2_lt_of (n := i.natAbs) (k := 1000) (by decide) h2
    omega
  have : (Builtin.Int.intBits i : Int) * j ≤ 1001 * 1000 := Int.mul_le_mul hb h1 h0 (by decide)
  have e : (2 : Int) ^ 27 = 134217728 := by decide
  omega
section
variable {S : Sc} {W : WX} {a b e c : Expr} {fa fb f : EF} {fl : AF} {pos : Pos}
def rAddU (K : PySem.W.Frag) : R2 := fun x y H Q => (rI0 fun i j => V.int (i + j)) x y H Q ∨ rCat x y H Q ∨ rCatA K x y H Q ∨ (∃ i j, x = .str i ∧ y = .str j ∧ i.length + j.length ≤ sizeLine ∧ Q (.str (i ++ j)) H)
theorem op_addU {X : Cx} : OpR X (binaryOp .Add) (rAddU X.K) := op_add.or (op_cat.or (op_catA.or op_add_str))
theorem gAdd0_ok {G : Gb} : R2D G (rAddU G.K) gAdd0 := by
  intro w L H x y d e Q E R dx dy p
  have lists : (∀ xs ys, lstOf L d = some xs → lstOf L e = some ys → Post G (Den G) w (newL (xs ++ ys) L) Q E → rAddU G.K x y H Q) := fun xs ys h1 h2 p => by
    obtain ⟨a, vs, rfl, ha, da⟩ := lst_at R dx h1
    obtain ⟨b, us, rfl, hb, db⟩ := lst_at R dy h2
    have hl : (vs ++ us).length = (xs ++ ys).length := (da.append db).length
    refine .inr (.inl ⟨a, b, vs, us, rfl, rfl, ha, hb, ?_, fun q hq => newL_go p R (da.append db) q hq⟩)
    have := newL_post p hl
    rw [List.length_append] at this; exact this
  unfold gAdd0 at p
  split at p
  · cases dx; cases dy
    exact .inl ⟨_, _, rfl, rfl, Post.ok p (.refl w) R (.int _)⟩
  · rename_i a b
    cases dx; cases dy
    split at p
    · rename_i h
      exact .inr (.inr (.inr ⟨_, _, rfl, rfl, lineLe h, Post.ok p (.refl w) R (.str _)⟩))
    · exact p.elim
  · rename_i xs ys
    cases dx with
    | @tup a vs ds h1 r1 =>
      cases dy with
      | @tup b us es h2 r2 =>
        have hl : (vs ++ us).length = (xs ++ ys).length := (r1.append r2).length
        have hz := newT_post p hl
        rw [List.length_append] at hz
        have pk : ∀ {zs : List D}, newT zs L = .ok (.tup zs) L ∨ newT zs L = .bad := fun {zs} => by unfold newT; split <;> simp
        have p2 : Post G (Den G) w (.ok (.tup (xs ++ ys)) L) Q E := by
          rcases pk (zs := xs ++ ys) with q | q
          · rw [q] at p; exact p
          · rw [q] at p; exact p.elim
        refine .inr (.inr (.inl ⟨a, b, vs, us, rfl, rfl, R.sqT h1, R.sqT h2, hz, fun e0 => ?_, fun _ e0 => ?_, fun _ _ q hq => newT_go p R (r1.append r2) q hq⟩))
        · subst e0; cases r1; exact Post.ok p2 (.refl w) R (.tup h2 r2)
        · subst e0; cases r2; rw [List.append_nil] at p2; exact Post.ok p2 (.refl w) R (.tup h1 r1)
  · split at p
    · rename_i xs ys h1 h2
      exact lists xs ys h1 h2 p
    · exact p.elim
theorem gAdd_ok {G : Gb} : R2D G (rAddU G.K) gAdd := fun w L H x y d e Q E R dx dy p => gAdd0_ok w L H x y _ _ Q E R dx.lo dy.lo p
theorem se_add (ha : SE S W a fa) (hb : SE S W b fb) : SE S W (.BinOp a .Add b pos) (e2 gAdd fa fb) := fun X h => se_op (r := rAddU S.g.K) (fun X h => by rw [h.K]; exact op_addU) gAdd_ok ha hb X h
theorem gSub_ok {G : Gb} : R2D G (rI0 fun i j => V.int (i - j)) gSub := by
  intro w L H x y d e Q E R dx dy p
  unfold gSub at p
  split at p
  · cases dx; cases dy; exact ⟨_, _, rfl, rfl, Post.ok p (.refl w) R (.int _)⟩
  · exact p.elim
theorem se_sub (ha : SE S W a fa) (hb : SE S W b fb) : SE S W (.BinOp a .Sub b pos) (e2 gSub fa fb) := se_op (fun _ _ => op_sub) gSub_ok ha hb
def rMulU (K : PySem.W.Frag) : R2 := fun x y H Q => (rI CMul fun i j => V.int (i * j)) x y H Q ∨ rRep x y H Q ∨ rRepT K x y H Q
theorem op_mulU {X : Cx} : OpR X (binaryOp .Mult) (rMulU X.K) := op_mul.or (op_rep.or op_repT)
theorem DenL.rep {G : Gb} {w : Wd} {vs : List V} {ds : List D} (h : DenL G w vs ds) : ∀ n : Nat, DenL G w (List.replicate n vs).flatten (List.replicate n ds).flatten
  | 0 => .nil
  | n + 1 => by rw [List.replicate_succ, List.replicate_succ, List.flatten_cons, List.flatten_cons]; exact h.append (DenL.rep h n)
theorem gMul0_ok {G : Gb} : R2D G (rMulU G.K) gMul0 := by
  intro w L H x y d e Q E R dx dy p
  unfold gMul0 at p
  split at p
  · cases dx; cases dy
    split at p
    · rename_i h; exact .inl ⟨_, _, rfl, rfl, h, Post.ok p (.refl w) R (.int _)⟩
    · exact p.elim
  · rename_i xs k
    cases dy
    split at p
    · rename_i h
      cases dx with
      | @tup a vs ds h1 r1 =>
        have hl := r1.length
        refine .inr (.inr ⟨a, k, vs, rfl, rfl, R.sqT h1, fun e0 => h.1 (by subst e0; cases r1; rfl), h.2.1, h.2.2.1, by omega, fun q hq => ?_⟩)
        obtain ⟨R2, l2⟩ := R.newF (o := .tup (List.replicate k.toNat vs).flatten) hq
        exact p _ _ _ l2 R2 (.tup (.inl (.inl upd_same)) ((r1.le l2).rep _))
    · exact p.elim
  · cases dy
    split at p
    · rename_i xs hx
      split at p
      · rename_i h
        obtain ⟨a, vs, rfl, h1, r1⟩ := lst_at R dx hx
        have hl := r1.length
        refine .inr (.inl ⟨a, _, vs, rfl, rfl, h1, h.1, h.2.1, by rw [hl]; exact lineLe h.2.2, fun q hq => ?_⟩)
        obtain ⟨R2, l2⟩ := R.newF (o := .lst (List.replicate _ vs).flatten) hq
        exact p _ _ _ l2 R2 (.lst upd_same ((r1.le l2).rep _))
      · exact p.elim
    · exact p.elim
  · exact p.elim
theorem gMul_ok {G : Gb} : R2D G (rMulU G.K) gMul := fun w L H x y d e Q E R dx dy p => gMul0_ok w L H x y _ _ Q E R dx.lo dy p
theorem se_mul (ha : SE S W a fa) (hb : SE S W b fb) : SE S W (.BinOp a .Mult b pos) (e2 gMul fa fb) := fun X h => se_op (r := rMulU S.g.K) (fun X h => by rw [h.K]; exact op_mulU) gMul_ok ha hb X h
theorem gDiv_ok {G : Gb} : R2D G (rI CDivW fun i j => V.int (i / j)) gDiv := by
  intro w L H x y d e Q E R dx dy p
  unfold gDiv at p
  split at p
  · cases dx; cases dy
    split at p
    · rename_i h; exact ⟨_, _, rfl, rfl, wide_div h.1 h.2 (by decide) (by decide), Post.ok p (.refl w) R (.int _)⟩
    · exact p.elim
  · exact p.elim
theorem se_div (ha : SE S W a fa) (hb : SE S W b fb) : SE S W (.BinOp a .FloorDiv b pos) (e2 gDiv fa fb) := se_op (fun _ _ => op_fdivW) gDiv_ok ha hb
theorem gMod_ok {G : Gb} : R2D G (rI (fun _ j => 0 < j) fun i j => V.int (i % j)) gMod := by
  intro w L H x y d e Q E R dx dy p
  unfold gMod at p
  split at p
  · cases dx; cases dy
    split at p
    · rename_i h; exact ⟨_, _, rfl, rfl, h, Post.ok p (.refl w) R (.int _)⟩
    · exact p.elim
  · exact p.elim
theorem se_mod (ha : SE S W a fa) (hb : SE S W b fb) : SE S W (.BinOp a .Mod b pos) (e2 gMod fa fb) := se_op (fun _ _ => op_mod) gMod_ok ha hb
theorem gPow_ok {G : Gb} : R2D G rPowW gPow := by
  intro w L H x y d e Q E R dx dy p
  unfold gPow at p
  split at p
  · cases dx; cases dy
    split at p
    · rename_i h; exact ⟨_, _, rfl, rfl, h, Post.ok p (.refl w) R (.int _)⟩
    · exact p.elim
  · exact p.elim
theorem se_pow (ha : SE S W a fa) (hb : SE S W b fb) : SE S W (.BinOp a .Pow b pos) (e2 gPow fa fb) := se_op (fun _ _ => op_powW) gPow_ok ha hb
theorem gNeg_ok {G : Gb} : R1D G (rU fun i => V.int (-i)) gNeg := by
  intro w L H x d Q E R dx p
  unfold gNeg at p
  split at p
  · cases dx; exact ⟨_, rfl, Post.ok p (.refl w) R (.int _)⟩
  · exact p.elim
theorem se_neg (ha : SE S W a fa) : SE S W (.UnaryOp .USub a pos) (e1 gNeg fa) := se_un (fun _ _ => un_neg) gNeg_ok ha

/-! ### comparisons -/
mutual
def toPy : D → Option PyData
  | .non => some .none
  | .bl b => some (.bool b)
  | .int i => some (.int i)
  | .str s => some (.str s)
  | .tup xs => (toPyL xs).map .tuple
  | .tg xs => (toPyL xs).map .tuple
  | .lst xs => (toPyL xs).map .list
  | .ro xs => (toPyL xs).map .list
  | _ => none
def toPyL : List D → Option (List PyData)
  | [] => some []
  | d :: ds => match toPy d, toPyL ds with
    | some p, some ps => some (p :: ps)
    | _, _ => none
end
mutual
theorem Den.py {G : Gb} {w : Wd} {L : Sto} {H : Hp} (R : Rel G w L H) : ∀ {v : V} {d : D} {p : PyData}, Den G w v d → toPy d = some p → Dp G.K H v p
  | _, _, _, .non, e => by cases e; exact .non
  | _, _, _, .bl b, e => by cases e; exact .bl b
  | _, _, _, .int i, e => by cases e; exact .int i
  | _, _, _, .str s, e => by cases e; exact .str s
  | _, _, _, .tup h r, e => by
    obtain ⟨ps, h1, rfl⟩ := Option.map_eq_some_iff.mp e
    exact .tup (R.sqT h) (DenL.py R r h1)
  | _, _, _, .tg h r, e => by
    obtain ⟨ps, h1, rfl⟩ := Option.map_eq_some_iff.mp e
    exact .tup (R.sqT h.t) (DenL.py R r h1)
  | _, _, _, .lst h r, e => by
    obtain ⟨ps, h1, rfl⟩ := Option.map_eq_some_iff.mp e
    exact .lst (.inl (.inl (R.sub _ _ h))) (DenL.py R r h1)
  | _, _, _, .ro h r, e => by
    obtain ⟨ps, h1, rfl⟩ := Option.map_eq_some_iff.mp e
    exact .lst (R.sqL h) (DenL.py R r h1)
  | _, _, _, .dK _ _, e => by cases e
  | _, _, _, .dT _ _, e => by cases e
  | _, _, _, .ins _ _ _, e => by cases e
  | _, _, _, .loc _, e => by cases e
  | _, _, _, .fn _ _, e => by cases e
  | _, _, _, .ty _, e => by cases e
theorem DenL.py {G : Gb} {w : Wd} {L : Sto} {H : Hp} (R : Rel G w L H) : ∀ {v : List V} {d : List D} {p : List PyData}, DenL G w v d → toPyL d = some p → DpAll G.K H v p
  | _, _, _, .nil, e => by cases e; exact .nil
  | _, d :: ds, _, .cons a t, e => by
    cases h1 : toPy d with
    | none => simp only [toPyL, h1] at e; cases e
    | some p =>
      cases h2 : toPyL ds with
      | none => simp only [toPyL, h1, h2] at e; cases e
      | some ps =>
        simp only [toPyL, h1, h2] at e
        cases e
        exact .cons (Den.py R a h1) (DenL.py R t h2)
end
/-- a box's list as a value -/
def seen (L : Sto) (d : D) : D := match lstOf L d with
  | some xs => .lst xs
  | none => d
theorem Den.pySeen {G : Gb} {w : Wd} {L : Sto} {H : Hp} (R : Rel G w L H) {v : V} {d : D} {p : PyData} (h : Den G w v d) (e : toPy (seen L d) = some p) : Dp G.K H v p := by
  unfold seen at e
  split at e
  · rename_i xs hx
    obtain ⟨a, vs, rfl, h1, r⟩ := lst_at R h hx
    obtain ⟨ps, h2, rfl⟩ := Option.map_eq_some_iff.mp e
    exact .lst (.inl (.inl h1)) (DenL.py R r h2)
  · exact h.py R e
def gEqB (L : Sto) (d e : D) : Option Bool := match toPy (seen L d), toPy (seen L e) with
  | some p, some q => if SeqAt.shaped p = true ∧ SeqAt.shaped q = true then some (PyData.eqv p q) else none
  | _, _ => none
def gEq (d e : D) (L : Sto) : Res D := match gEqB L d e with
  | some b => .ok (.bl b) L
  | none => .bad
def gNe (d e : D) (L : Sto) : Res D := match gEqB L d e with
  | some b => .ok (.bl (!b)) L
  | none => .bad
theorem gEqB_at {G : Gb} {w : Wd} {L : Sto} {H : Hp} (R : Rel G w L H) {x y : V} {d e : D} {b : Bool} (dx : Den G w x d) (dy : Den G w y e) (h : gEqB L d e = some b) :
    ∃ p q, Dp G.K H x p ∧ Dp G.K H y q ∧ SeqAt.shaped p = true ∧ SeqAt.shaped q = true ∧ PyData.eqv p q = b := by
  unfold gEqB at h
  split at h
  · rename_i p q h1 h2
    split at h
    · rename_i h3; cases h; exact ⟨p, q, dx.pySeen R h1, dy.pySeen R h2, h3.1, h3.2, rfl⟩
    · cases h
  · cases h
theorem gEq_ok {G : Gb} : R2D G (rEqD G.K) gEq := by
  intro w L H x y d e Q E R dx dy p
  unfold gEq at p
  split at p
  · rename_i b h
    obtain ⟨u, v, h1, h2, h3, h4, h5⟩ := gEqB_at R dx dy h
    exact ⟨u, v, h1, h2, h3, h4, by rw [h5]; exact Post.ok p (.refl w) R (.bl b)⟩
  · exact p.elim
theorem gNe_ok {G : Gb} : R2D G (rNeD G.K) gNe := by
  intro w L H x y d e Q E R dx dy p
  unfold gNe at p
  split at p
  · rename_i b h
    obtain ⟨u, v, h1, h2, h3, h4, h5⟩ := gEqB_at R dx dy h
    exact ⟨u, v, h1, h2, h3, h4, by rw [h5]; exact Post.ok p (.refl w) R (.bl _)⟩
  · exact p.elim
theorem Sc.Has.units {X : Cx} (h : S.Has W X) : X.A.units + 64 < cLine := by have := h.room.un; omega
theorem se_eq (ha : SE S W a fa) (hb : SE S W b fb) : SE S W (.Compare a [.Eq] [b] pos) (e2 gEq fa fb) := fun X h => se_cmp (r := rEqD S.g.K) (fun X h => by rw [h.K]; exact op_eqD h.units) gEq_ok ha hb (nomark _) X h
theorem st_eq (ha : SE S W a fa) (hb : SE S W b fb) : ST S W (.Compare a [.Eq] [b] pos) (fun ρ L => asB (e2 gEq fa fb ρ L)) := fun X h => st_cmp (r := rEqD S.g.K) (fun X h => by rw [h.K]; exact op_eqD h.units) gEq_ok ha hb (nomark _) X h
theorem se_ne (ha : SE S W a fa) (hb : SE S W b fb) : SE S W (.Compare a [.NotEq] [b] pos) (e2 gNe fa fb) := fun X h => se_cmp (r := rNeD S.g.K) (fun X h => by rw [h.K]; exact op_neD h.units) gNe_ok ha hb (nomark _) X h
theorem st_ne (ha : SE S W a fa) (hb : SE S W b fb) : ST S W (.Compare a [.NotEq] [b] pos) (fun ρ L => asB (e2 gNe fa fb ρ L)) := fun X h => st_cmp (r := rNeD S.g.K) (fun X h => by rw [h.K]; exact op_neD h.units) gNe_ok ha hb (nomark _) X h
/-- order -/
def gLt0 (d e : D) (L : Sto) : Res D := match d, e with
  | .int i, .int j => .ok (.bl (decide (i < j))) L
  | .str i, .str j => .ok (.bl (decide (i.cps.toList < j.cps.toList))) L
  | .tup xs, .tup ys => (match dInts xs, dInts ys with
    | some ns, some ms => .ok (.bl (HT.lexLt ns ms)) L
    | _, _ => .bad)
  | _, _ => .bad
def gLt (d e : D) (L : Sto) : Res D := gLt0 (lo d) (lo e) L
def rLtU (K : PySem.W.Frag) : R2 := fun x y H Q => (rI0 fun i j => V.bl (decide (i < j))) x y H Q ∨ (∃ i j, x = .str i ∧ y = .str j ∧ Q (.bl (decide (i.cps.toList < j.cps.toList))) H) ∨ rLtT K x y H Q
theorem op_ltU {X : Cx} (hu : X.A.units < cLine) : OpR X (compareOp .Lt) (rLtU X.K) := op_lt.or (op_lt_str.or (op_ltT hu))
theorem gLt0_ok {G : Gb} : R2D G (rLtU G.K) gLt0 := by
  intro w L H x y d e Q E R dx dy p
  unfold gLt0 at p
  split at p
  · cases dx; cases dy; exact .inl ⟨_, _, rfl, rfl, Post.ok p (.refl w) R (.bl _)⟩
  · cases dx; cases dy; exact .inr (.inl ⟨_, _, rfl, rfl, Post.ok p (.refl w) R (.bl _)⟩)
  · split at p
    · rename_i ns ms h1 h2
      cases dx with
      | tup hx rx =>
        cases dy with
        | tup hy ry =>
          have e1 := rx.ints h1
          have e2 := ry.ints h2
          subst e1 e2
          exact .inr (.inr ⟨_, _, ns, ms, rfl, rfl, R.sqT hx, R.sqT hy, Post.ok p (.refl w) R (.bl _)⟩)
    · exact p.elim
  · exact p.elim
theorem gLt_ok {G : Gb} : R2D G (rLtU G.K) gLt := fun w L H x y d e Q E R dx dy p => gLt0_ok w L H x y _ _ Q E R dx.lo dy.lo p
def gIcmp (f : Int → Int → Bool) (d e : D) (L : Sto) : Res D := match d, e with
  | .int i, .int j => .ok (.bl (f i j)) L
  | _, _ => .bad
theorem gIcmp_ok {G : Gb} (f : Int → Int → Bool) : R2D G (rI0 fun i j => V.bl (f i j)) (gIcmp f) := by
  intro w L H x y d e Q E R dx dy p
  unfold gIcmp at p
  split at p
  · cases dx; cases dy; exact ⟨_, _, rfl, rfl, Post.ok p (.refl w) R (.bl _)⟩
  · exact p.elim
def gLe := gIcmp fun i j => decide (i ≤ j)
def gGt := gIcmp fun i j => decide (j < i)
def gGe := gIcmp fun i j => decide (j ≤ i)
theorem se_lt (ha : SE S W a fa) (hb : SE S W b fb) : SE S W (.Compare a [.Lt] [b] pos) (e2 gLt fa fb) := fun X h => se_cmp (r := rLtU S.g.K) (fun X h => by rw [h.K]; exact op_ltU (by have := h.units; omega)) gLt_ok ha hb (nomark _) X h
theorem st_lt (ha : SE S W a fa) (hb : SE S W b fb) : ST S W (.Compare a [.Lt] [b] pos) (fun ρ L => asB (e2 gLt fa fb ρ L)) := fun X h => st_cmp (r := rLtU S.g.K) (fun X h => by rw [h.K]; exact op_ltU (by have := h.units; omega)) gLt_ok ha hb (nomark _) X h
theorem se_le (ha : SE S W a fa) (hb : SE S W b fb) : SE S W (.Compare a [.LtE] [b] pos) (e2 gLe fa fb) := se_cmp (fun _ _ => op_le) (gIcmp_ok _) ha hb (nomark _)
theorem st_le (ha : SE S W a fa) (hb : SE S W b fb) : ST S W (.Compare a [.LtE] [b] pos) (fun ρ L => asB (e2 gLe fa fb ρ L)) := st_cmp (fun _ _ => op_le) (gIcmp_ok _) ha hb (nomark _)
theorem se_gt (ha : SE S W a fa) (hb : SE S W b fb) : SE S W (.Compare a [.Gt] [b] pos) (e2 gGt fa fb) := se_cmp (fun _ _ => op_gt) (gIcmp_ok _) ha hb (nomark _)
theorem st_gt (ha : SE S W a fa) (hb : SE S W b fb) : ST S W (.Compare a [.Gt] [b] pos) (fun ρ L => asB (e2 gGt fa fb ρ L)) := st_cmp (fun _ _ => op_gt) (gIcmp_ok _) ha hb (nomark _)
theorem se_ge (ha : SE S W a fa) (hb : SE S W b fb) : SE S W (.Compare a [.GtE] [b] pos) (e2 gGe fa fb) := se_cmp (fun _ _ => op_ge) (gIcmp_ok _) ha hb (nomark _)
theorem st_ge (ha : SE S W a fa) (hb : SE S W b fb) : ST S W (.Compare a [.GtE] [b] pos) (fun ρ L => asB (e2 gGe fa fb ρ L)) := st_cmp (fun _ _ => op_ge) (gIcmp_ok _) ha hb (nomark _)
end
end DS
set_option Elab.async false
set_option linter.all false
set_option maxRecDepth 100000
set_option maxHeartbeats 4000000
namespace DS
open PySem PySem.Spec L2
open PyProof.Rows hiding St

theorem PE.or {X : Cx} {e : Expr} {t u : TE} (h : PE X e t) (k : PE X e u) : PE X e (fun σ H Q => t σ H Q ∨ u σ H Q) := ⟨fun pins s σ H Q I q => q.elim (h.run pins s σ H Q I) (k.run pins s σ H Q I)⟩
/-- no builtin's name is taken by the module -/
structure Bl (G : Gb) : Prop where
  range : G.mg "range" = none
  enumerate : G.mg "enumerate" = none
  zip : G.mg "zip" = none
  len : G.mg "len" = none
  tuple : G.mg "tuple" = none
  list : G.mg "list" = none
  int : G.mg "int" = none
  abs : G.mg "abs" = none
  max : G.mg "max" = none
  min : G.mg "min" = none
  sum : G.mg "sum" = none
  all : G.mg "all" = none
  any : G.mg "any" = none
  sorted : G.mg "sorted" = none
  isinstance : G.mg "isinstance" = none
  dict : G.mg "dict" = none
  set : G.mg "set" = none
  bool : G.mg "bool" = none
  str : G.mg "str" = none
  reversed : G.mg "reversed" = none
  repr : G.mg "repr" = none
  iter : G.mg "iter" = none
  next : G.mg "next" = none

theorem seq_now {G : Gb} {w : Wd} {L : Sto} {H : Hp} {v : V} {d : D} {xs : List D} {s : List (Nat × D)} (R : Rel G w L H) (h : Den G w v d) (e : seqOf L d = some (xs, s)) :
    ∃ k a vs, v = .ref a ∧ SqB k G.K H a vs ∧ DenL G w vs xs := by
  obtain ⟨k, a, ea, hk⟩ := seq_at (H := H) h e
  obtain ⟨vs, h1, h2⟩ := hk w L H (.refl w) R (seq_src e)
  exact ⟨k, a, vs, ea, h1, h2⟩
/-- a list (a box, a frozen one, a read-only one) -/
def sqlOf (L : Sto) (d : D) : Option (List D) := match d with
  | .ro xs => some xs
  | d => lstOf L d
theorem sql_at {G : Gb} {w : Wd} {L : Sto} {H : Hp} {v : V} {d : D} {xs : List D} (R : Rel G w L H) (h : Den G w v d) (e : sqlOf L d = some xs) : ∃ a vs, v = .ref a ∧ SqL G.K H a vs ∧ DenL G w vs xs := by
  cases h with
  | @ro a vs ds hq r => cases e; exact ⟨a, vs, rfl, R.sqL hq, r⟩
  | lst hq r => obtain ⟨a, vs, e1, h1, h2⟩ := lst_at R (.lst hq r) e; exact ⟨a, vs, e1, .inl (.inl h1), h2⟩
  | loc hn => obtain ⟨a, vs, e1, h1, h2⟩ := lst_at R (.loc hn) e; exact ⟨a, vs, e1, .inl (.inl h1), h2⟩
  | _ => cases e

/-! ### flat data -/
def dFlat : D → Bool
  | .non => true
  | .bl _ => true
  | .int _ => true
  | .str _ => true
  | _ => false
def dEqF : D → D → Bool
  | .non, .non => true
  | .bl a, .bl b => a == b
  | .bl a, .int b => (if a then 1 else 0) == b
  | .int a, .bl b => a == (if b then 1 else 0)
  | .int a, .int b => a == b
  | .str a, .str b => a == b
  | _, _ => false
theorem Den.flat {G : Gb} {w : Wd} {v : V} {d : D} (h : Den G w v d) (e : dFlat d = true) : flatV v = true := by
  cases h <;> first | rfl | cases e
theorem Den.eqF {G : Gb} {w : Wd} {v u : V} {d e : D} (h : Den G w v d) (k : Den G w u e) (h1 : dFlat d = true) (h2 : dFlat e = true) : eqV v u = dEqF d e := by
  cases h <;> first
    | exact absurd h1 Bool.false_ne_true
    | (cases k <;> first | exact absurd h2 Bool.false_ne_true | rfl)
theorem DenL.flat {G : Gb} {w : Wd} : ∀ {vs : List V} {ds : List D}, DenL G w vs ds → ds.all dFlat = true → vs.all flatV = true
  | _, _, .nil, _ => rfl
  | _, _, .cons a t, e => by
    rw [List.all_cons] at e ⊢
    exact and2' (a.flat (and2 e).1) (t.flat (and2 e).2)
theorem DenL.inF {G : Gb} {w : Wd} {v : V} {d : D} (h : Den G w v d) (hd : dFlat d = true) : ∀ {vs : List V} {ds : List D}, DenL G w vs ds → ds.all dFlat = true → inV v vs = ds.any fun y => dEqF y d
  | _, _, .nil, _ => rfl
  | _, _, .cons a t, e => by
    rw [List.all_cons] at e
    have := DenL.inF h hd t (and2 e).2
    unfold inV at this ⊢
    rw [List.any_cons, List.any_cons, this, a.eqF h (and2 e).1 hd]

/-! ### dicts by data -/
inductive DD where
  | k (kvs : List (Key × D))
  | t (kvs : List (List Key × D))
def dictOf (L : Sto) (d : D) : Option DD := match d with
  | .dK kvs => some (.k kvs)
  | .dT kvs => some (.t kvs)
  | .loc n => (match L[n]? with
    | some (.dK kvs) => some (.k kvs)
    | some (.dT kvs) => some (.t kvs)
    | _ => none)
  | _ => none
theorem dk_at {G : Gb} {w : Wd} {L : Sto} {H : Hp} {v : V} {d : D} {xs : List (Key × D)} (R : Rel G w L H) (h : Den G w v d) (e : dictOf L d = some (.k xs)) : ∃ a vs, v = .ref a ∧ H a = some (.dK vs) ∧ DenK G w vs xs := by
  cases h with
  | @dK a vs ds hq r => cases e; exact ⟨a, vs, rfl, R.sub _ _ hq, r⟩
  | @dT a vs ds hq r => cases e
  | @loc n a hn =>
    dsimp only [dictOf] at e
    split at e
    · rename_i ys hy
      cases e
      obtain ⟨o, h1, h2⟩ := R.box n a _ hn hy
      cases h2 with
      | dK r => exact ⟨a, _, rfl, h1, r⟩
    · cases e
    · cases e
  | _ => cases e
theorem dt_at {G : Gb} {w : Wd} {L : Sto} {H : Hp} {v : V} {d : D} {xs : List (List Key × D)} (R : Rel G w L H) (h : Den G w v d) (e : dictOf L d = some (.t xs)) : ∃ a vs, v = .ref a ∧ H a = some (.dT vs) ∧ DenT G w vs xs := by
  cases h with
  | @dK a vs ds hq r => cases e
  | @dT a vs ds hq r => cases e; exact ⟨a, vs, rfl, R.sub _ _ hq, r⟩
  | @loc n a hn =>
    dsimp only [dictOf] at e
    split at e
    · cases e
    · rename_i ys hy
      cases e
      obtain ⟨o, h1, h2⟩ := R.box n a _ hn hy
      cases h2 with
      | dT r => exact ⟨a, _, rfl, h1, r⟩
    · cases e
  | _ => cases e
def dKey : D → Option Key
  | .int i => some (.inl i)
  | .str s => some (.inr s)
  | _ => none
def dKeys : List D → Option (List Key)
  | [] => some []
  | d :: ds => match dKey d, dKeys ds with
    | some k, some ks => some (k :: ks)
    | _, _ => none
theorem Den.key {G : Gb} {w : Wd} {v : V} {d : D} {k : Key} (h : Den G w v d) (e : dKey d = some k) : v = kV k := by
  cases h <;> cases e <;> rfl
theorem DenL.keys {G : Gb} {w : Wd} : ∀ {vs : List V} {ds : List D} {ks : List Key}, DenL G w vs ds → dKeys ds = some ks → vs = ks.map kV
  | _, _, _, .nil, e => by cases e; rfl
  | _, d :: ds, _, .cons a t, e => by
    unfold dKeys at e
    split at e
    · rename_i k ks h1 h2
      cases e
      rw [a.key h1, DenL.keys t h2] <;> rfl
    · cases e
def valD {κ : Type} [DecidableEq κ] (kvs : List (κ × D)) (k : κ) : Option D := (kvs.find? fun kv => decide (kv.1 = k)).map (·.2)
def putD {κ : Type} [DecidableEq κ] (kvs : List (κ × D)) (k : κ) (v : D) : List (κ × D) :=
  if (kvs.any fun kv => decide (kv.1 = k)) = true then kvs.map (fun kv => if kv.1 = k then (kv.1, v) else kv) else kvs ++ [(k, v)]
inductive OD (G : Gb) (w : Wd) : Option V → Option D → Prop where
  | none : OD G w .none .none
  | some {v : V} {d : D} (h : Den G w v d) : OD G w (some v) (some d)
theorem DenK.val {G : Gb} {w : Wd} (k : Key) : ∀ {vs : List (Key × V)} {ds : List (Key × D)}, DenK G w vs ds → OD G w (valV vs k) (valD ds k)
  | _, _, .nil => .none
  | _, _, @DenK.cons _ _ k' v d vs ds a t => by
    unfold valV valD
    rw [List.find?_cons, List.find?_cons]
    by_cases h : k' = k
    · simp only [h, decide_true]; exact .some a
    · simp only [h, decide_false]; exact DenK.val k t
theorem DenT.val {G : Gb} {w : Wd} (k : List Key) : ∀ {vs : List (List Key × V)} {ds : List (List Key × D)}, DenT G w vs ds → OD G w (valV vs k) (valD ds k)
  | _, _, .nil => .none
  | _, _, @DenT.cons _ _ k' v d vs ds a t => by
    unfold valV valD
    rw [List.find?_cons, List.find?_cons]
    by_cases h : k' = k
    · simp only [h, decide_true]; exact .some a
    · simp only [h, decide_false]; exact DenT.val k t
theorem DenK.any {G : Gb} {w : Wd} (k : Key) : ∀ {vs : List (Key × V)} {ds : List (Key × D)}, DenK G w vs ds → (vs.any fun kv => decide (kv.1 = k)) = ds.any fun kv => decide (kv.1 = k)
  | _, _, .nil => rfl
  | _, _, .cons a t => by rw [List.any_cons, List.any_cons, DenK.any k t]
theorem DenT.any {G : Gb} {w : Wd} (k : List Key) : ∀ {vs : List (List Key × V)} {ds : List (List Key × D)}, DenT G w vs ds → (vs.any fun kv => decide (kv.1 = k)) = ds.any fun kv => decide (kv.1 = k)
  | _, _, .nil => rfl
  | _, _, .cons a t => by rw [List.any_cons, List.any_cons, DenT.any k t]
theorem DenK.map {G : Gb} {w : Wd} {k : Key} {v : V} {d : D} (h : Den G w v d) : ∀ {vs : List (Key × V)} {ds : List (Key × D)}, DenK G w vs ds → DenK G w (vs.map fun kv => if kv.1 = k then (kv.1, v) else kv) (ds.map fun kv => if kv.1 = k then (kv.1, d) else kv)
  | _, _, .nil => .nil
  | _, _, @DenK.cons _ _ k' v' d' vs ds a t => by
    rw [List.map_cons, List.map_cons]
    by_cases hk : k' = k
    · simp only [hk, if_true]; exact .cons h (DenK.map h t)
    · simp only [hk, if_false]; exact .cons a (DenK.map h t)
theorem DenT.map {G : Gb} {w : Wd} {k : List Key} {v : V} {d : D} (h : Den G w v d) : ∀ {vs : List (List Key × V)} {ds : List (List Key × D)}, DenT G w vs ds → DenT G w (vs.map fun kv => if kv.1 = k then (kv.1, v) else kv) (ds.map fun kv => if kv.1 = k then (kv.1, d) else kv)
  | _, _, .nil => .nil
  | _, _, @DenT.cons _ _ k' v' d' vs ds a t => by
    rw [List.map_cons, List.map_cons]
    by_cases hk : k' = k
    · simp only [hk, if_true]; exact .cons h (DenT.map h t)
    · simp only [hk, if_false]; exact .cons a (DenT.map h t)
theorem DenK.snoc {G : Gb} {w : Wd} {k : Key} {v : V} {d : D} (h : Den G w v d) : ∀ {vs : List (Key × V)} {ds : List (Key × D)}, DenK G w vs ds → DenK G w (vs ++ [(k, v)]) (ds ++ [(k, d)])
  | _, _, .nil => .cons h .nil
  | _, _, .cons a t => .cons a (DenK.snoc h t)
theorem DenT.snoc {G : Gb} {w : Wd} {k : List Key} {v : V} {d : D} (h : Den G w v d) : ∀ {vs : List (List Key × V)} {ds : List (List Key × D)}, DenT G w vs ds → DenT G w (vs ++ [(k, v)]) (ds ++ [(k, d)])
  | _, _, .nil => .cons h .nil
  | _, _, .cons a t => .cons a (DenT.snoc h t)
theorem DenK.put {G : Gb} {w : Wd} {k : Key} {v : V} {d : D} {vs : List (Key × V)} {ds : List (Key × D)} (h : DenK G w vs ds) (hv : Den G w v d) : DenK G w (putK vs k v) (putD ds k d) := by
  unfold putK putD
  rw [h.any k]
  split
  · exact h.map hv
  · exact h.snoc hv
theorem DenT.put {G : Gb} {w : Wd} {k : List Key} {v : V} {d : D} {vs : List (List Key × V)} {ds : List (List Key × D)} (h : DenT G w vs ds) (hv : Den G w v d) : DenT G w (putK vs k v) (putD ds k d) := by
  unfold putK putD
  rw [h.any k]
  split
  · exact h.map hv
  · exact h.snoc hv
theorem DenK.length {G : Gb} {w : Wd} : ∀ {vs : List (Key × V)} {ds : List (Key × D)}, DenK G w vs ds → vs.length = ds.length
  | _, _, .nil => rfl
  | _, _, .cons a t => congrArg Nat.succ (DenK.length t)
theorem DenT.length {G : Gb} {w : Wd} : ∀ {vs : List (List Key × V)} {ds : List (List Key × D)}, DenT G w vs ds → vs.length = ds.length
  | _, _, .nil => rfl
  | _, _, .cons a t => congrArg Nat.succ (DenT.length t)
/-- what a dict has at a key: none — no dict, or no key -/
def gLook (L : Sto) (d k : D) : Option (Option D) := match dictOf L d with
  | some (.k kvs) => (match dKey k with
    | some key => some (valD kvs key)
    | none => none)
  | some (.t kvs) => (match k with
    | .tup xs => (match dKeys xs with
      | some ks => some (valD kvs ks)
      | none => none)
    | _ => none)
  | none => none
def Len24 (xs : List D) : Prop := xs.length ≤ 16777216
theorem look_at {G : Gb} {w : Wd} {L : Sto} {H : Hp} {v u : V} {d k : D} {o : Option D} (R : Rel G w L H) (h : Den G w v d) (hk : Den G w u k) (e : gLook L d k = some o)
    (ht : ∀ a vs, u = .ref a → SqT G.K w.F a vs → H a = some (.tup vs)) : ∃ a ov, v = .ref a ∧ DGet H a u ov ∧ OD G w ov o := by
  unfold gLook at e
  split at e
  · rename_i kvs hd
    split at e
    · rename_i key hkey
      cases e
      obtain ⟨a, vs, rfl, ha, r⟩ := dk_at R h hd
      rw [hk.key hkey]
      exact ⟨a, _, rfl, DGet.k ha, r.val key⟩
    · cases e
  · rename_i kvs hd
    split at e
    · rename_i xs
      split at e
      · rename_i ks hks
        cases e
        obtain ⟨a, vs, rfl, ha, r⟩ := dt_at R h hd
        cases hk with
        | @tup b us ds hq rr =>
          have := rr.keys hks
          subst this
          exact ⟨a, _, rfl, .inr ⟨vs, ks, b, .inl ha, rfl, ht _ _ rfl hq, rfl⟩, r.val ks⟩
      · cases e
    · cases e
  · cases e

/-! ### in, is -/
section
variable {S : Sc} {W : WX} {a b e c : Expr} {es : List Expr} {fa fb fc f : EF} {fl : AF} {pos p : Pos}
def gInB (L : Sto) (d e : D) : Option Bool := match seqOf L e with
  | some (xs, _) => if dFlat d = true ∧ xs.all dFlat = true then some (xs.any fun y => dEqF y d) else
    (match toPy (seen L d), toPy (seen L e) with
    | some p, some (.list ps) => if SeqAt.shaped p = true ∧ SeqAt.shaped (.list ps) = true then some (ps.any fun z => PyData.eqv z p) else none
    | _, _ => none)
  | none => (match d with
    | .int _ => (gLook L e d).map Option.isSome
    | .str _ => (gLook L e d).map Option.isSome
    | _ => none)
def gIn (d e : D) (L : Sto) : Res D := match gInB L d e with
  | some b => .ok (.bl b) L
  | none => .bad
def gNotIn (d e : D) (L : Sto) : Res D := match gInB L d e with
  | some b => .ok (.bl (!b)) L
  | none => .bad
def rInDk : R2 := fun y x H Q => ∃ a o, x = .ref a ∧ DGet H a y o ∧ Q (.bl o.isSome) H
def rNotInDk : R2 := fun y x H Q => ∃ a o, x = .ref a ∧ DGet H a y o ∧ Q (.bl (!o.isSome)) H
theorem op_inDk {X : Cx} (hu : X.A.units + 1 < cLine) : OpR X (compareOp .In) rInDk := by
  intro pins s σ H x y v u Q I rx ry h
  obtain ⟨a, o, rfl, g, q⟩ := h
  obtain rfl : u = Value.ref a := ry
  exact d_in hu I g rx fun s3 I3 => ⟨.bl o.isSome, H, I3, rfl, q⟩
theorem op_notInDk {X : Cx} (hu : X.A.units + 1 < cLine) : OpR X (compareOp .NotIn) rNotInDk := by
  intro pins s σ H x y v u Q I rx ry h
  obtain ⟨a, o, rfl, g, q⟩ := h
  obtain rfl : u = Value.ref a := ry
  exact d_notIn hu I g rx fun s3 I3 => ⟨.bl (!o.isSome), H, I3, rfl, q⟩
def rInU (K : PySem.W.Frag) : R2 := fun x y H Q => rIn K false x y H Q ∨ rInD K x y H Q ∨ rInDk x y H Q
def rNotInU (K : PySem.W.Frag) : R2 := fun x y H Q => rIn K true x y H Q ∨ rNotInD K x y H Q ∨ rNotInDk x y H Q
theorem gInB_at {G : Gb} {w : Wd} {L : Sto} {H : Hp} {x y : V} {d e : D} {b : Bool} (R : Rel G w L H) (dx : Den G w x d) (dy : Den G w y e) (h : gInB L d e = some b) :
    (∃ p xs, y = .ref p ∧ (SqL G.K H p xs ∨ SqT G.K H p xs) ∧ flatV x = true ∧ xs.all flatV = true ∧ inV x xs = b) ∨
    (∃ d ds, Dp G.K H x d ∧ Dp G.K H y (.list ds) ∧ SeqAt.shaped d = true ∧ SeqAt.shaped (.list ds) = true ∧ (ds.any fun z => PyData.eqv z d) = b) ∨
    ∃ a o, y = .ref a ∧ DGet H a x o ∧ o.isSome = b := by
  unfold gInB at h
  split at h
  · rename_i xs s hs
    split at h
    · rename_i hf
      cases h
      obtain ⟨k, a, vs, rfl, hq, r⟩ := seq_now R dy hs
      refine .inl ⟨a, vs, rfl, ?_, dx.flat hf.1, r.flat hf.2, DenL.inF dx hf.1 r hf.2⟩
      cases k with
      | true => exact .inl hq
      | false => exact .inr hq
    · split at h
      · rename_i p ps h1 h2
        split at h
        · rename_i h3
          cases h
          exact .inr (.inl ⟨p, ps, dx.pySeen R h1, dy.pySeen R h2, h3.1, h3.2, rfl⟩)
        · cases h
      · cases h
  · have fin : ∀ o, gLook L e d = some o → (∀ a vs, x = .ref a → SqT G.K w.F a vs → H a = some (.tup vs)) → o.isSome = b → ∃ a o, y = .ref a ∧ DGet H a x o ∧ o.isSome = b := fun o h1 h2 h3 => by
      obtain ⟨a, ov, ea, g, od⟩ := look_at R dy dx h1 h2
      refine ⟨a, ov, ea, g, ?_⟩
      rw [← h3]
      cases od <;> rfl
    split at h
    · obtain ⟨o, h1, h2⟩ := Option.map_eq_some_iff.mp h
      cases dx
      exact .inr (.inr (fin o h1 (fun _ _ z => nomatch z) h2))
    · obtain ⟨o, h1, h2⟩ := Option.map_eq_some_iff.mp h
      cases dx
      exact .inr (.inr (fin o h1 (fun _ _ z => nomatch z) h2))
    · cases h
theorem gIn_ok {G : Gb} : R2D G (rInU G.K) gIn := by
  intro w L H x y d e Q E R dx dy p
  unfold gIn at p
  split at p
  · rename_i b hb
    have q : Q (.bl b) H := Post.ok p (.refl w) R (.bl b)
    rcases gInB_at R dx dy hb with ⟨a, xs, h1, h2, h3, h4, h5⟩ | ⟨u, us, h1, h2, h3, h4, h5⟩ | ⟨a, o, h1, h2, h3⟩
    · exact .inl ⟨a, xs, h1, h2, h3, h4, by rw [if_neg (by decide), h5]; exact q⟩
    · exact .inr (.inl ⟨u, us, h1, h2, h3, h4, by rw [h5]; exact q⟩)
    · exact .inr (.inr ⟨a, o, h1, h2, by rw [h3]; exact q⟩)
  · exact p.elim
theorem gNotIn_ok {G : Gb} : R2D G (rNotInU G.K) gNotIn := by
  intro w L H x y d e Q E R dx dy p
  unfold gNotIn at p
  split at p
  · rename_i b hb
    have q : Q (.bl (!b)) H := Post.ok p (.refl w) R (.bl _)
    rcases gInB_at R dx dy hb with ⟨a, xs, h1, h2, h3, h4, h5⟩ | ⟨u, us, h1, h2, h3, h4, h5⟩ | ⟨a, o, h1, h2, h3⟩
    · exact .inl ⟨a, xs, h1, h2, h3, h4, by rw [if_pos rfl, h5]; exact q⟩
    · exact .inr (.inl ⟨u, us, h1, h2, h3, h4, by rw [h5]; exact q⟩)
    · exact .inr (.inr ⟨a, o, h1, h2, by rw [h3]; exact q⟩)
  · exact p.elim
theorem op_inU {X : Cx} (hu : X.A.units + 65 < cLine) : OpR X (compareOp .In) (rInU X.K) := op_in_seq.or ((op_inD hu).or (op_inDk (by omega)))
theorem op_notInU {X : Cx} (hu : X.A.units + 65 < cLine) : OpR X (compareOp .NotIn) (rNotInU X.K) := op_notIn_seq.or ((op_notInD hu).or (op_notInDk (by omega)))
theorem Sc.Has.units65 {X : Cx} (h : S.Has W X) : X.A.units + 65 < cLine := by have := h.room.un; omega
theorem se_in (ha : SE S W a fa) (hb : SE S W b fb) (hm : behindInMarks .In b = false := by first | exact nobehind _ (by decide) (by decide) | rfl) : SE S W (.Compare a [.In] [b] pos) (e2 gIn fa fb) := fun X h => se_cmp (r := rInU S.g.K) (fun X h => by rw [h.K]; exact op_inU h.units65) gIn_ok ha hb hm X h
theorem st_in (ha : SE S W a fa) (hb : SE S W b fb) (hm : behindInMarks .In b = false := by first | exact nobehind _ (by decide) (by decide) | rfl) : ST S W (.Compare a [.In] [b] pos) (fun ρ L => asB (e2 gIn fa fb ρ L)) := fun X h => st_cmp (r := rInU S.g.K) (fun X h => by rw [h.K]; exact op_inU h.units65) gIn_ok ha hb hm X h
theorem se_notIn (ha : SE S W a fa) (hb : SE S W b fb) (hm : behindInMarks .NotIn b = false := by first | exact nobehind _ (by decide) (by decide) | rfl) : SE S W (.Compare a [.NotIn] [b] pos) (e2 gNotIn fa fb) := fun X h => se_cmp (r := rNotInU S.g.K) (fun X h => by rw [h.K]; exact op_notInU h.units65) gNotIn_ok ha hb hm X h
theorem st_notIn (ha : SE S W a fa) (hb : SE S W b fb) (hm : behindInMarks .NotIn b = false := by first | exact nobehind _ (by decide) (by decide) | rfl) : ST S W (.Compare a [.NotIn] [b] pos) (fun ρ L => asB (e2 gNotIn fa fb ρ L)) := fun X h => st_cmp (r := rNotInU S.g.K) (fun X h => by rw [h.K]; exact op_notInU h.units65) gNotIn_ok ha hb hm X h
/-- is None -/
def isNonD : D → Option Bool
  | .non => some true
  | .fn _ => none
  | _ => some false
theorem Den.isNon {G : Gb} {w : Wd} {v : V} {d : D} {b : Bool} (h : Den G w v d) (e : isNonD d = some b) : decide (v = .non) = b := by
  cases h <;> cases e <;> first | rfl | decide
def gIsN (d e : D) (L : Sto) : Res D := match e, isNonD d with
  | .non, some b => .ok (.bl b) L
  | _, _ => .bad
def gNotN (d e : D) (L : Sto) : Res D := match e, isNonD d with
  | .non, some b => .ok (.bl (!b)) L
  | _, _ => .bad
theorem gIsN_ok {G : Gb} : R2D G (fun x y H Q => y = .non ∧ Q (.bl (decide (x = .non))) H) gIsN := by
  intro w L H x y d e Q E R dx dy p
  unfold gIsN at p
  split at p
  · rename_i b hb
    cases dy
    exact ⟨rfl, by rw [dx.isNon hb]; exact Post.ok p (.refl w) R (.bl b)⟩
  · exact p.elim
theorem gNotN_ok {G : Gb} : R2D G (fun x y H Q => y = .non ∧ Q (.bl (!decide (x = .non))) H) gNotN := by
  intro w L H x y d e Q E R dx dy p
  unfold gNotN at p
  split at p
  · rename_i b hb
    cases dy
    exact ⟨rfl, by rw [dx.isNon hb]; exact Post.ok p (.refl w) R (.bl _)⟩
  · exact p.elim
theorem se_isN (ha : SE S W a fa) (hb : SE S W b fb) : SE S W (.Compare a [.Is] [b] pos) (e2 gIsN fa fb) := se_cmp (fun _ _ => op_isN) gIsN_ok ha hb (nomark _)
theorem st_isN (ha : SE S W a fa) (hb : SE S W b fb) : ST S W (.Compare a [.Is] [b] pos) (fun ρ L => asB (e2 gIsN fa fb ρ L)) := st_cmp (fun _ _ => op_isN) gIsN_ok ha hb (nomark _)
theorem se_notN (ha : SE S W a fa) (hb : SE S W b fb) : SE S W (.Compare a [.IsNot] [b] pos) (e2 gNotN fa fb) := se_cmp (fun _ _ => op_notN) gNotN_ok ha hb (nomark _)
theorem st_notN (ha : SE S W a fa) (hb : SE S W b fb) : ST S W (.Compare a [.IsNot] [b] pos) (fun ρ L => asB (e2 gNotN fa fb ρ L)) := st_cmp (fun _ _ => op_notN) gNotN_ok ha hb (nomark _)
/-! ### chains -/
def eChain (g g' : D → D → Sto → Res D) (fa fb fc : EF) : EF := fun ρ L => (fa ρ L).bind fun d L1 => (fb ρ L1).bind fun e L2 => (asB (g d e L2)).bind fun k L3 =>
  if k = true then (fc ρ L3).bind fun c L4 => g' e c L4 else .ok (.bl false) L3
theorem tChain_of {r r' : R2} {g g' : D → D → Sto → Res D} (hr : R2D S.g r g) (hr' : R2D S.g r' g') {σ : St} {H : Hp} {Q : VK} (h : tR S.g (Den S.g) W (eChain g g' fa fb fc) σ H Q) :
    tChain r r' (tR S.g (Den S.g) W fa) (tR S.g (Den S.g) W fb) (tR S.g (Den S.g) W fc) σ H Q := by
  obtain ⟨w, ρ, L, R, e, p⟩ := h
  refine ⟨w, ρ, L, R, e, (Post.bind (rel := Den S.g) p).imp (fun x H1 ⟨w1, d, L1, l1, R1, d1, p1⟩ => ?_) fun _ _ _ z => z⟩
  refine ⟨w1, ρ, L1, R1, e.le l1, (Post.bind (rel := Den S.g) p1).imp (fun y H2 ⟨w2, d', L2, l2, R2, d2, p2⟩ => ?_) fun _ _ _ z => z⟩
  refine hr w2 L2 H2 x y d d' _ (fun c dx H' => W c dx σ H') R2 (d1.le l2) d2 ((Post.asB (Post.bind (rel := eqR) p2)).imp (fun z H3 ⟨k, hk, w3, kk, L3, l3, R3, e3, p3⟩ => ?_) fun _ _ _ z => z)
  cases e3
  refine ⟨k, hk, ?_⟩
  cases k with
  | false => exact Post.ok p3 (.refl _) R3 (.bl false)
  | true =>
    rw [if_pos rfl] at p3
    rw [if_pos rfl]
    refine ⟨w3, ρ, L3, R3, (e.le l1).le (l2.trans l3), (Post.bind (rel := Den S.g) p3).imp (fun y3 H4 ⟨w4, d4, L4, l4, R4, dd4, p4⟩ => ?_) fun _ _ _ z => z⟩
    exact hr' w4 L4 H4 y y3 d' d4 Q _ R4 (d2.le (l3.trans l4)) dd4 p4
theorem se_chain {op op' : CmpOp} {r r' : R2} {g g' : D → D → Sto → Res D} (ho : ∀ X, S.Has W X → OpR X (compareOp op) r) (ho' : ∀ X, S.Has W X → OpR X (compareOp op') r') (hr : R2D S.g r g) (hr' : R2D S.g r' g')
    (ha : SE S W a fa) (hb : SE S W b fb) (hc : SE S W c fc) (hm : lastMarks [op, op'] [b, c] = false := by with_unfolding_all rfl) : SE S W (.Compare a [op, op'] [b, c] pos) (eChain g g' fa fb fc) := fun X h =>
  PE.imp (pe_chain (ho X h) (ho' X h) (ha X h) (hb X h) (hc X h) hm) fun σ H Q q => tChain_of hr hr' q
theorem st_chain {op op' : CmpOp} {r r' : R2} {g g' : D → D → Sto → Res D} (ho : ∀ X, S.Has W X → OpR X (compareOp op) r) (ho' : ∀ X, S.Has W X → OpR X (compareOp op') r') (hr : R2D S.g r g) (hr' : R2D S.g r' g')
    (ha : SE S W a fa) (hb : SE S W b fb) (hc : SE S W c fc) (hm : lastMarks [op, op'] [b, c] = false := by with_unfolding_all rfl) : ST S W (.Compare a [op, op'] [b, c] pos) (fun ρ L => asB (eChain g g' fa fb fc ρ L)) := fun X h =>
  PT.imp (pt_chain (ho X h) (ho' X h) (ha X h) (hb X h) (hc X h) hm) fun σ H Q ⟨w, ρ, L, R, e, p⟩ => tChain_of hr hr' ⟨w, ρ, L, R, e, Post.asB p⟩
def opLe : ∀ X : Cx, S.Has W X → OpR X (compareOp .LtE) (rI0 fun i j => V.bl (decide (i ≤ j))) := fun _ _ => op_le
def opLt : ∀ X : Cx, S.Has W X → OpR X (compareOp .Lt) (rI0 fun i j => V.bl (decide (i < j))) := fun _ _ => op_lt
theorem gLe_ok {G : Gb} : R2D G (rI0 fun i j => V.bl (decide (i ≤ j))) gLe := gIcmp_ok _
def gLtI := gIcmp fun i j => decide (i < j)
theorem gLtI_ok {G : Gb} : R2D G (rI0 fun i j => V.bl (decide (i < j))) gLtI := gIcmp_ok _
theorem se_le_le (ha : SE S W a fa) (hb : SE S W b fb) (hc : SE S W c fc) (hm : lastMarks [.LtE, .LtE] [b, c] = false := by with_unfolding_all rfl) : SE S W (.Compare a [.LtE, .LtE] [b, c] pos) (eChain gLe gLe fa fb fc) := se_chain opLe opLe gLe_ok gLe_ok ha hb hc hm
theorem st_le_le (ha : SE S W a fa) (hb : SE S W b fb) (hc : SE S W c fc) (hm : lastMarks [.LtE, .LtE] [b, c] = false := by with_unfolding_all rfl) : ST S W (.Compare a [.LtE, .LtE] [b, c] pos) (fun ρ L => asB (eChain gLe gLe fa fb fc ρ L)) := st_chain opLe opLe gLe_ok gLe_ok ha hb hc hm
theorem se_le_lt (ha : SE S W a fa) (hb : SE S W b fb) (hc : SE S W c fc) (hm : lastMarks [.LtE, .Lt] [b, c] = false := by with_unfolding_all rfl) : SE S W (.Compare a [.LtE, .Lt] [b, c] pos) (eChain gLe gLtI fa fb fc) := se_chain opLe opLt gLe_ok gLtI_ok ha hb hc hm
theorem st_le_lt (ha : SE S W a fa) (hb : SE S W b fb) (hc : SE S W c fc) (hm : lastMarks [.LtE, .Lt] [b, c] = false := by with_unfolding_all rfl) : ST S W (.Compare a [.LtE, .Lt] [b, c] pos) (fun ρ L => asB (eChain gLe gLtI fa fb fc ρ L)) := st_chain opLe opLt gLe_ok gLtI_ok ha hb hc hm
theorem se_lt_lt (ha : SE S W a fa) (hb : SE S W b fb) (hc : SE S W c fc) (hm : lastMarks [.Lt, .Lt] [b, c] = false := by with_unfolding_all rfl) : SE S W (.Compare a [.Lt, .Lt] [b, c] pos) (eChain gLtI gLtI fa fb fc) := se_chain opLt opLt gLtI_ok gLtI_ok ha hb hc hm
theorem st_lt_lt (ha : SE S W a fa) (hb : SE S W b fb) (hc : SE S W c fc) (hm : lastMarks [.Lt, .Lt] [b, c] = false := by with_unfolding_all rfl) : ST S W (.Compare a [.Lt, .Lt] [b, c] pos) (fun ρ L => asB (eChain gLtI gLtI fa fb fc ρ L)) := st_chain opLt opLt gLtI_ok gLtI_ok ha hb hc hm
/-! ### truth -/
def truD (L : Sto) (d : D) : Option Bool := match d with
  | .non => some false
  | .bl b => some b
  | .int i => some (i != 0)
  | .str s => if s.length ≤ 16777216 then some ((s.length : Int) != 0) else none
  | d => (match seqOf L d with
    | some (xs, _) => some (!xs.isEmpty)
    | none => (match dictOf L d with
      | some (.k kvs) => some (!kvs.isEmpty)
      | _ => none))
theorem DenL.empty {G : Gb} {w : Wd} {vs : List V} {ds : List D} (h : DenL G w vs ds) : vs.isEmpty = ds.isEmpty := by cases h <;> rfl
theorem tru_at {G : Gb} {w : Wd} {L : Sto} {H : Hp} {v : V} {d : D} {k : Bool} (R : Rel G w L H) (h : Den G w v d) (e : truD L d = some k) : TruV G.K v H k := by
  have sq : ∀ {v d}, Den G w v d → ∀ xs s, seqOf L d = some (xs, s) → (!xs.isEmpty) = k → TruV G.K v H k := by
    intro v d h xs s hs hk
    obtain ⟨b, a, vs, rfl, hq, r⟩ := seq_now R h hs
    rw [← r.empty] at hk
    cases b with
    | true => exact .inl ⟨vs, hq, hk.symm⟩
    | false => exact .inr (.inl ⟨vs, hq, hk.symm⟩)
  have dk : ∀ {v d}, Den G w v d → ∀ kvs, dictOf L d = some (.k kvs) → (!kvs.isEmpty) = k → TruV G.K v H k := by
    intro v d h kvs hs hk
    obtain ⟨a, vs, rfl, hq, r⟩ := dk_at R h hs
    have : vs.isEmpty = kvs.isEmpty := by cases r <;> rfl
    rw [← this] at hk
    exact .inr (.inr ⟨vs, hq, hk.symm⟩)
  have gen : ∀ {v d}, Den G w v d → (match seqOf L d with
    | some (xs, _) => some (!xs.isEmpty)
    | none => (match dictOf L d with
      | some (.k kvs) => some (!kvs.isEmpty)
      | _ => none)) = some k → TruV G.K v H k := by
    intro v d h e
    split at e
    · rename_i xs s hs; cases e; exact sq h _ _ hs rfl
    · split at e
      · rename_i kvs hs; cases e; exact dk h _ hs rfl
      · cases e
  cases h with
  | non => cases e; exact rfl
  | bl b => cases e; exact rfl
  | int i => cases e; exact rfl
  | str s =>
    unfold truD at e
    dsimp only at e
    split at e
    · rename_i h; cases e; exact ⟨lineLe h, rfl⟩
    · cases e
  | tup hq r => exact gen (.tup hq r) e
  | tg hq r => exact gen (.tg hq r) e
  | lst hq r => exact gen (.lst hq r) e
  | ro hq r => exact gen (.ro hq r) e
  | dK hq r => exact gen (.dK hq r) e
  | dT hq r => exact gen (.dT hq r) e
  | ins hq m r => exact gen (.ins hq m r) e
  | loc hn => exact gen (.loc hn) e
  | fn hm r => cases e
  | ty n => cases e
def tTru (f : EF) : TF := fun ρ L => (f ρ L).bind fun d L1 => match truD L1 d with
  | some k => .ok k L1
  | none => .bad
theorem st_truth (he : SE S W e f) (ht : ∀ (env : Env) whole, isTrue e env whole = (do let v ← whole; standAt e.pos; holding [v] (truthy v)) := by intro _ _; rfl) : ST S W e (tTru f) := fun X h =>
  PT.imp (pt_truth (he X h) (ht X.env)) fun σ H Q ⟨w, ρ, L, R, e, p⟩ => ⟨w, ρ, L, R, e, (Post.bind (rel := Den S.g) p).imp (fun x H1 ⟨w1, d, L1, l1, R1, d1, p1⟩ => by
    split at p1
    · rename_i k hk
      exact ⟨k, by rw [← h.K]; exact tru_at R1 d1 hk, Post.ok p1 (.refl _) R1 rfl⟩
    · exact p1.elim) fun _ _ _ z => z⟩
/-! ### displays -/
def eTup (f : AF) : EF := fun ρ L => (f ρ L).bind newT
def eLst (box : Bool) (f : AF) : EF := fun ρ L => (f ρ L).bind fun ds L1 => if ds.length ≤ 16777216 then lstOut box ds L1 else .bad
theorem se_tup {k} (ha : SA S W es fl) : SE S W (.Tuple es k pos) (eTup fl) := fun X h =>
  PE.imp (pe_tup (ha X h)) fun σ H Q ⟨w, ρ, L, R, e, p⟩ => ⟨w, ρ, L, R, e, (Post.bind (rel := DenL S.g) p).imp (fun x H1 ⟨w1, d, L1, l1, R1, d1, p1⟩ =>
    ⟨newT_post p1 d1.length, fun q hq => newT_go p1 R1 d1 q hq⟩) fun _ _ _ z => z⟩
theorem lstOut_go {G : Gb} {w : Wd} {L : Sto} {H : Hp} {vs : List V} {xs : List D} {Q : VK} {E : XK} {box : Bool} (p : Post G (Den G) w (lstOut box xs L) Q E) (R : Rel G w L H) (d : DenL G w vs xs) (q : Addr) (hq : H q = none) : Q (.ref q) (upd H q (.lst vs)) := by
  unfold lstOut at p
  split at p
  · obtain ⟨R2, l2⟩ := R.newB (o := .lst vs) (c := .lst xs) hq (.lst (DenL.le (w := w) (w' := ⟨w.F, w.φ ++ [q], w.prv⟩) ⟨⟨fun _ _ _ r => r, fun n a e => (List.getElem?_append_left (getElem?_lt e)).trans e, fun _ _ r => r⟩, rfl⟩ d))
    refine p _ _ _ l2 R2 (.loc ?_)
    show (w.φ ++ [q])[L.length]? = some q
    rw [← R.len, List.getElem?_append_right (Nat.le_refl _)]
    simp
  · obtain ⟨R2, l2⟩ := R.newF (o := .lst vs) hq
    exact p _ _ _ l2 R2 (.lst upd_same (d.le l2))
theorem se_lst (box : Bool) (ha : SA S W es fl) : SE S W (.List es pos) (eLst box fl) := fun X h =>
  PE.imp (pe_lst (ha X h)) fun σ H Q ⟨w, ρ, L, R, e, p⟩ => ⟨w, ρ, L, R, e, (Post.bind (rel := DenL S.g) p).imp (fun x H1 ⟨w1, d, L1, l1, R1, d1, p1⟩ => by
    split at p1
    · rename_i hz
      exact ⟨by rw [d1.length]; exact lineLe hz, fun q hq => lstOut_go p1 R1 d1 q hq⟩
    · exact p1.elim) fun _ _ _ z => z⟩
end
end DS
set_option Elab.async false
set_option linter.all false
set_option maxRecDepth 100000
set_option maxHeartbeats 4000000
namespace DS
open PySem PySem.Spec L2
open PyProof.Rows hiding St

section
variable {S : Sc} {W : WX} {a b e c o : Expr} {es : List Expr} {fa fb fc f fo : EF} {fl : AF} {pos p apos cpos : Pos}
/-! ### calls of builtins -/
theorem RnD.or {G : Gb} {r r' : List V → Hp → VK → Prop} {g : List D → Sto → Res D} (h : RnD G r g) : RnD G (fun xs H Q => r xs H Q ∨ r' xs H Q) g := fun w L H x d Q E R dx p => .inl (h w L H x d Q E R dx p)
theorem en_of {r : List V → Hp → VK → Prop} {g : List D → Sto → Res D} (hr : RnD S.g r g) {σ : St} {H : Hp} {Q : VK} (q : tR S.g (Den S.g) W (en g fl) σ H Q) : tCB r (tR S.g (DenL S.g) W fl) σ H Q := by
  obtain ⟨w, ρ, L, R, e, p⟩ := q
  exact ⟨w, ρ, L, R, e, (Post.bind (rel := DenL S.g) p).imp (fun x H1 ⟨w1, d, L1, l1, R1, d1, p1⟩ => hr w1 L1 H1 x d Q _ R1 d1 p1) fun _ _ _ z => z⟩
theorem se_callB {x : Str} {id : String} {r : List V → Hp → VK → Prop} {g : List D → Sto → Res D} (hc : ∀ X, S.Has W X → CallR X (.builtin id) r) (hr : RnD S.g r g) (hm : S.g.mg x = none) (hv : bootBuiltins x = some (.builtin id)) (ha : SA S W (e :: es) fl)
    (hg : Glb S x) (hn : x ≠ "__name__") (hdb : (x == ("__debug__" : Str)) = false) (he : ∀ env, starEach (e :: es) env = (false, eval e env) :: starEach es env) (hpl : ∀ env, (backTo pos (starEach es env)).any (·.1) = false) :
    SE S W (.Call (.Name x p) (e :: es) [] pos) (en g fl) := fun X h =>
  PE.imp (pe_callB (hc X h) (by show X.env.scope.names.lookup _ = _; rw [← h.sc]; exact hg) (by rw [← h.mg]; exact hm) hv (ha X h) hn hdb (he _) (hpl _)) fun σ H Q q => en_of hr q
theorem se_callT {x : Str} {T : String} {r : List V → Hp → VK → Prop} {g : List D → Sto → Res D} (hc : ∀ X, S.Has W X → CallR X (.type T) r) (hr : RnD S.g r g) (hm : S.g.mg x = none) (hv : bootBuiltins x = some (.type T)) (ha : SA S W (e :: es) fl)
    (hg : Glb S x) (hn : x ≠ "__name__") (hdb : (x == ("__debug__" : Str)) = false) (he : ∀ env, starEach (e :: es) env = (false, eval e env) :: starEach es env) (hpl : ∀ env, (backTo pos (starEach es env)).any (·.1) = false) :
    SE S W (.Call (.Name x p) (e :: es) [] pos) (en g fl) := fun X h =>
  PE.imp (pe_callTy (hc X h) (by show X.env.scope.names.lookup _ = _; rw [← h.sc]; exact hg) (by rw [← h.mg]; exact hm) hv (ha X h) hn hdb (he _) (hpl _)) fun σ H Q q => en_of hr q
/-! len -/
def gLen (ds : List D) (L : Sto) : Res D := match ds with
  | [d] => (match d with
    | .str s => if s.length ≤ 16777216 then .ok (.int s.length) L else .bad
    | d => (match seqOf L d with
      | some (xs, _) => .ok (.int xs.length) L
      | none => (match dictOf L d with
        | some (.k kvs) => .ok (.int kvs.length) L
        | some (.t kvs) => .ok (.int kvs.length) L
        | none => .bad)))
  | _ => .bad
def rLenU (K : PySem.W.Frag) : List V → Hp → VK → Prop := fun xs H Q => (∃ x n, xs = [x] ∧ LenV K x H n ∧ Q (.int n) H) ∨ (∃ a kvs, xs = [V.ref a] ∧ H a = some (.dK kvs) ∧ Q (.int kvs.length) H) ∨ rLenT xs H Q
theorem len_seq {G : Gb} {w : Wd} {L : Sto} {H : Hp} {v : V} {d : D} {Q : VK} {E : XK} (R : Rel G w L H) (h : Den G w v d)
    (p : Post G (Den G) w (match seqOf L d with
      | some (xs, _) => .ok (.int xs.length) L
      | none => (match dictOf L d with
        | some (.k kvs) => .ok (.int kvs.length) L
        | some (.t kvs) => .ok (.int kvs.length) L
        | none => .bad)) Q E) : rLenU G.K [v] H Q := by
  split at p
  · rename_i xs s hs
    obtain ⟨k, a, vs, rfl, hq, r⟩ := seq_now R h hs
    refine .inl ⟨_, vs.length, rfl, ?_, by rw [r.length]; exact Post.ok p (.refl w) R (.int _)⟩
    cases k with
    | true => exact .inl ⟨vs, hq, rfl⟩
    | false => exact .inr ⟨vs, hq, rfl⟩
  · split at p
    · rename_i kvs hd
      obtain ⟨a, vs, rfl, hq, r⟩ := dk_at R h hd
      exact .inr (.inl ⟨a, vs, rfl, hq, by rw [r.length]; exact Post.ok p (.refl w) R (.int _)⟩)
    · rename_i kvs hd
      obtain ⟨a, vs, rfl, hq, r⟩ := dt_at R h hd
      exact .inr (.inr ⟨a, vs, rfl, hq, by rw [r.length]; exact Post.ok p (.refl w) R (.int _)⟩)
    · exact p.elim
theorem gLen_ok {G : Gb} : RnD G (rLenU G.K) gLen := by
  intro w L H x ds Q E R dx p
  unfold gLen at p
  split at p
  · rename_i d
    cases dx with
    | cons h t =>
      cases t
      split at p
      · cases h
        split at p
        · rename_i hz
          exact .inl ⟨_, _, rfl, ⟨lineLe hz, rfl⟩, Post.ok p (.refl w) R (.int _)⟩
        · exact p.elim
      · exact len_seq R h p
  · exact p.elim
theorem se_len (B : Bl S.g) (ha : SA S W (e :: es) fl) (hg : Glb S "len" := by rfl) (he : ∀ env, starEach (e :: es) env = (false, eval e env) :: starEach es env := by intro _; rfl) (hpl : ∀ env, (backTo pos (starEach es env)).any (·.1) = false := by intro _; rfl) :
    SE S W (.Call (.Name "len" p) (e :: es) [] pos) (en gLen fl) := fun X h =>
  se_callB (id := "len") (r := rLenU S.g.K) (fun X h => by rw [h.K]; exact call_len.or (call_lenD.or call_len_dT)) gLen_ok B.len (by decide +kernel) ha hg (by decide) (by decide) he hpl X h
/-! max, min -/
def gMax (ds : List D) (L : Sto) : Res D := match ds with
  | [d] => (match sqlOf L d with
    | some xs => (match dInts xs with
      | some ns => (match ns.max? with
        | some m => .ok (.int m) L
        | none => .bad)
      | none => .bad)
    | none => .bad)
  | [.int i, .int j] => .ok (.int (if j > i then j else i)) L
  | _ => .bad
def gMin (ds : List D) (L : Sto) : Res D := match ds with
  | [d] => (match sqlOf L d with
    | some xs => (match dInts xs with
      | some ns => (match ns.min? with
        | some m => .ok (.int m) L
        | none => .bad)
      | none => .bad)
    | none => .bad)
  | [.int i, .int j] => .ok (.int (if j < i then j else i)) L
  | _ => .bad
def rMaxU (K : PySem.W.Frag) : List V → Hp → VK → Prop := fun xs H Q => rMax K xs H Q ∨ ∃ i j, xs = [.int i, .int j] ∧ Q (.int (if j > i then j else i)) H
def rMinU (K : PySem.W.Frag) : List V → Hp → VK → Prop := fun xs H Q => rMin K xs H Q ∨ ∃ i j, xs = [.int i, .int j] ∧ Q (.int (if j < i then j else i)) H
theorem gMax_ok {G : Gb} : RnD G (rMaxU G.K) gMax := by
  intro w L H x ds Q E R dx p
  unfold gMax at p
  split at p
  · cases dx with
    | cons h t =>
      cases t
      split at p
      · rename_i xs hx
        split at p
        · rename_i ns hn
          split at p
          · rename_i m hm
            obtain ⟨a, vs, rfl, hq, r⟩ := sql_at R h hx
            have := r.ints hn
            subst this
            have hm2 := List.max?_eq_some_iff.mp hm
            refine .inl ⟨a, ns, rfl, hq, List.length_pos_of_mem hm2.1, fun m' h1 h2 => ?_⟩
            have : m' = m := Int.le_antisymm (hm2.2 _ h1) (h2 _ hm2.1)
            subst this
            exact Post.ok p (.refl w) R (.int _)
          · exact p.elim
        · exact p.elim
      · exact p.elim
  · cases dx with
    | cons h t =>
      cases t with
      | cons h2 t =>
        cases t
        cases h
        cases h2
        exact .inr ⟨_, _, rfl, Post.ok p (.refl w) R (.int _)⟩
  · exact p.elim
theorem gMin_ok {G : Gb} : RnD G (rMinU G.K) gMin := by
  intro w L H x ds Q E R dx p
  unfold gMin at p
  split at p
  · cases dx with
    | cons h t =>
      cases t
      split at p
      · rename_i xs hx
        split at p
        · rename_i ns hn
          split at p
          · rename_i m hm
            obtain ⟨a, vs, rfl, hq, r⟩ := sql_at R h hx
            have := r.ints hn
            subst this
            have hm2 := List.min?_eq_some_iff.mp hm
            refine .inl ⟨a, ns, rfl, hq, List.length_pos_of_mem hm2.1, fun m' h1 h2 => ?_⟩
            have : m' = m := Int.le_antisymm (h2 _ hm2.1) (hm2.2 _ h1)
            subst this
            exact Post.ok p (.refl w) R (.int _)
          · exact p.elim
        · exact p.elim
      · exact p.elim
  · cases dx with
    | cons h t =>
      cases t with
      | cons h2 t =>
        cases t
        cases h
        cases h2
        exact .inr ⟨_, _, rfl, Post.ok p (.refl w) R (.int _)⟩
  · exact p.elim
theorem se_max (B : Bl S.g) (ha : SA S W (e :: es) fl) (hg : Glb S "max" := by rfl) (he : ∀ env, starEach (e :: es) env = (false, eval e env) :: starEach es env := by intro _; rfl) (hpl : ∀ env, (backTo pos (starEach es env)).any (·.1) = false := by intro _; rfl) :
    SE S W (.Call (.Name "max" p) (e :: es) [] pos) (en gMax fl) := fun X h =>
  se_callB (id := "max") (r := rMaxU S.g.K) (fun X h => by rw [h.K]; exact (cr_max h.calm).or (call_max2 h.calm)) gMax_ok B.max (by decide +kernel) ha hg (by decide) (by decide) he hpl X h
theorem se_min (B : Bl S.g) (ha : SA S W (e :: es) fl) (hg : Glb S "min" := by rfl) (he : ∀ env, starEach (e :: es) env = (false, eval e env) :: starEach es env := by intro _; rfl) (hpl : ∀ env, (backTo pos (starEach es env)).any (·.1) = false := by intro _; rfl) :
    SE S W (.Call (.Name "min" p) (e :: es) [] pos) (en gMin fl) := fun X h =>
  se_callB (id := "min") (r := rMinU S.g.K) (fun X h => by rw [h.K]; exact (cr_min h.calm).or (call_min2 h.calm)) gMin_ok B.min (by decide +kernel) ha hg (by decide) (by decide) he hpl X h
/-! sum, all, any -/
def gSum (ds : List D) (L : Sto) : Res D := match ds with
  | [d] => (match sqlOf L d with
    | some xs => (match dInts xs with
      | some ns => .ok (.int ns.sum) L
      | none => .bad)
    | none => .bad)
  | _ => .bad
def gAll (ds : List D) (L : Sto) : Res D := match ds with
  | [d] => (match sqlOf L d with
    | some xs => (match dBls xs with
      | some ns => .ok (.bl (ns.all id)) L
      | none => .bad)
    | none => .bad)
  | _ => .bad
def gAny (ds : List D) (L : Sto) : Res D := match ds with
  | [d] => (match sqlOf L d with
    | some xs => (match dBls xs with
      | some ns => .ok (.bl (ns.any id)) L
      | none => .bad)
    | none => .bad)
  | _ => .bad
theorem gSum_ok {G : Gb} : RnD G (rSum G.K) gSum := by
  intro w L H x ds Q E R dx p
  unfold gSum at p
  split at p
  · cases dx with
    | cons h t =>
      cases t
      split at p
      · rename_i xs hx
        split at p
        · rename_i ns hn
          obtain ⟨a, vs, rfl, hq, r⟩ := sql_at R h hx
          have := r.ints hn
          subst this
          exact ⟨a, ns, rfl, hq, Post.ok p (.refl w) R (.int _)⟩
        · exact p.elim
      · exact p.elim
  · exact p.elim
theorem gAll_ok {G : Gb} : RnD G (rAll G.K) gAll := by
  intro w L H x ds Q E R dx p
  unfold gAll at p
  split at p
  · cases dx with
    | cons h t =>
      cases t
      split at p
      · rename_i xs hx
        split at p
        · rename_i ns hn
          obtain ⟨a, vs, rfl, hq, r⟩ := sql_at R h hx
          have := r.bls hn
          subst this
          exact ⟨a, ns, rfl, hq, Post.ok p (.refl w) R (.bl _)⟩
        · exact p.elim
      · exact p.elim
  · exact p.elim
theorem gAny_ok {G : Gb} : RnD G (rAny G.K) gAny := by
  intro w L H x ds Q E R dx p
  unfold gAny at p
  split at p
  · cases dx with
    | cons h t =>
      cases t
      split at p
      · rename_i xs hx
        split at p
        · rename_i ns hn
          obtain ⟨a, vs, rfl, hq, r⟩ := sql_at R h hx
          have := r.bls hn
          subst this
          exact ⟨a, ns, rfl, hq, Post.ok p (.refl w) R (.bl _)⟩
        · exact p.elim
      · exact p.elim
  · exact p.elim
theorem se_sum (B : Bl S.g) (ha : SA S W (e :: es) fl) (hg : Glb S "sum" := by rfl) (he : ∀ env, starEach (e :: es) env = (false, eval e env) :: starEach es env := by intro _; rfl) (hpl : ∀ env, (backTo pos (starEach es env)).any (·.1) = false := by intro _; rfl) :
    SE S W (.Call (.Name "sum" p) (e :: es) [] pos) (en gSum fl) := fun X h =>
  se_callB (id := "sum") (r := rSum S.g.K) (fun X h => by rw [h.K]; exact cr_sum h.calm) gSum_ok B.sum (by decide +kernel) ha hg (by decide) (by decide) he hpl X h
theorem se_all (B : Bl S.g) (ha : SA S W (e :: es) fl) (hg : Glb S "all" := by rfl) (he : ∀ env, starEach (e :: es) env = (false, eval e env) :: starEach es env := by intro _; rfl) (hpl : ∀ env, (backTo pos (starEach es env)).any (·.1) = false := by intro _; rfl) :
    SE S W (.Call (.Name "all" p) (e :: es) [] pos) (en gAll fl) := fun X h =>
  se_callB (id := "all") (r := rAll S.g.K) (fun X h => by rw [h.K]; exact cr_all h.calm) gAll_ok B.all (by decide +kernel) ha hg (by decide) (by decide) he hpl X h
theorem se_any (B : Bl S.g) (ha : SA S W (e :: es) fl) (hg : Glb S "any" := by rfl) (he : ∀ env, starEach (e :: es) env = (false, eval e env) :: starEach es env := by intro _; rfl) (hpl : ∀ env, (backTo pos (starEach es env)).any (·.1) = false := by intro _; rfl) :
    SE S W (.Call (.Name "any" p) (e :: es) [] pos) (en gAny fl) := fun X h =>
  se_callB (id := "any") (r := rAny S.g.K) (fun X h => by rw [h.K]; exact cr_any h.calm) gAny_ok B.any (by decide +kernel) ha hg (by decide) (by decide) he hpl X h
/-! abs, int -/
def gAbs (ds : List D) (L : Sto) : Res D := match ds with
  | [.int i] => .ok (.int (if i < 0 then -i else i)) L
  | _ => .bad
theorem gAbs_ok {G : Gb} : RnD G (fun xs H Q => ∃ i, xs = [.int i] ∧ Q (.int (if i < 0 then -i else i)) H) gAbs := by
  intro w L H x ds Q E R dx p
  unfold gAbs at p
  split at p
  · cases dx with
    | cons h t => cases t; cases h; exact ⟨_, rfl, Post.ok p (.refl w) R (.int _)⟩
  · exact p.elim
theorem se_abs (B : Bl S.g) (ha : SA S W (e :: es) fl) (hg : Glb S "abs" := by rfl) (he : ∀ env, starEach (e :: es) env = (false, eval e env) :: starEach es env := by intro _; rfl) (hpl : ∀ env, (backTo pos (starEach es env)).any (·.1) = false := by intro _; rfl) :
    SE S W (.Call (.Name "abs" p) (e :: es) [] pos) (en gAbs fl) := se_callB (id := "abs") (fun X h => call_abs) gAbs_ok B.abs (by decide +kernel) ha hg (by decide) (by decide) he hpl
def gInt (ds : List D) (L : Sto) : Res D := match ds with
  | [.int i] => .ok (.int i) L
  | [.bl k] => .ok (.int (if k then 1 else 0)) L
  | _ => .bad
theorem gInt_ok {G : Gb} : RnD G (fun xs H Q => (∃ i, xs = [.int i] ∧ Q (.int i) H) ∨ ∃ k, xs = [.bl k] ∧ Q (.int (if k then 1 else 0)) H) gInt := by
  intro w L H x ds Q E R dx p
  unfold gInt at p
  split at p
  · cases dx with
    | cons h t => cases t; cases h; exact .inl ⟨_, rfl, Post.ok p (.refl w) R (.int _)⟩
  · cases dx with
    | cons h t => cases t; cases h; exact .inr ⟨_, rfl, Post.ok p (.refl w) R (.int _)⟩
  · exact p.elim
theorem se_int1 (B : Bl S.g) (ha : SA S W (e :: es) fl) (hg : Glb S "int" := by rfl) (he : ∀ env, starEach (e :: es) env = (false, eval e env) :: starEach es env := by intro _; rfl) (hpl : ∀ env, (backTo pos (starEach es env)).any (·.1) = false := by intro _; rfl) :
    SE S W (.Call (.Name "int" p) (e :: es) [] pos) (en gInt fl) := se_callT (T := "int") (fun X h => call_int1) gInt_ok B.int (by decide +kernel) ha hg (by decide) (by decide) he hpl
/-! tuple, list -/
theorem call_tuple_g {X : Cx} : CallR X (.type "tuple") (fun xs H Q => ∃ p ys, xs = [.ref p] ∧ ((SqL X.K H p ys ∧ ∀ l (o : Obj), o.dict = none → H l = none → Q (.ref l) (upd H l (.frz o (.tup ys)))) ∨ (SqT X.K H p ys ∧ Q (.ref p) H))) := by
  intro pins s σ H xs us Q I r h
  obtain ⟨p, ys, rfl, h⟩ := h
  obtain ⟨u, rfl, rx⟩ := vals1 r
  cases rx
  rcases h with ⟨hq, q⟩ | ⟨hq, q⟩
  · obtain ⟨its, r', pl, hz⟩ := I.list hq
    have hlen := r'.length
    refine call_tuple_list pl.isList (fun h' kp => ?_) (by simp only [List.size_toArray] <;> omega)
    have I1 : Inv X pins σ H { s with heap := h' } := I.kept (t' := s.toks) kp
    have I2 : Inv X pins σ (upd H h'.objs.size (.frz { cls := .type "tuple", data := .seq its.toArray } (.tup ys))) { s with heap := h'.push { cls := .type "tuple", data := .seq its.toArray } } :=
      I1.laid (t' := s.toks) (fun b o e => Heap.get?_push_of_some _ e) (Nat.le_refl _) (show ObjOk X.prog X.w _ _ _ (.frz _ (.tup ys)) from ⟨Heap.get?_push_size _ rfl, hz, its, r', IsTup.new _ _⟩)
    exact ⟨.ref h'.objs.size, _, I2, rfl, q _ _ rfl (I1.hok.fresh (Nat.le_refl _))⟩
  · obtain ⟨its, r', pl, hz⟩ := I.tuple hq
    exact call_tuple_same pl ⟨.ref p, H, I, rfl, q⟩
def newTG (xs : List D) (L : Sto) : Res D := if xs.length ≤ 16777216 then .ok (.tg xs) L else .bad
theorem newTG_post {G : Gb} {w : Wd} {L : Sto} {vs : List V} {xs : List D} {Q : VK} {E : XK} (p : Post G (Den G) w (newTG xs L) Q E) : vs.length = xs.length → vs.length ≤ sizeLine := by
  unfold newTG at p
  split at p
  · rename_i h; intro e; rw [e]; exact lineLe h
  · exact p.elim
theorem newTG_go {G : Gb} {w : Wd} {L : Sto} {H : Hp} {vs : List V} {xs : List D} {Q : VK} {E : XK} (p : Post G (Den G) w (newTG xs L) Q E) (R : Rel G w L H) (d : DenL G w vs xs) (q : Addr) (o : Obj) (ho : o.dict = none) (hq : H q = none) : Q (.ref q) (upd H q (.frz o (.tup vs))) := by
  unfold newTG at p
  split at p
  · obtain ⟨R2, l2⟩ := R.newF (o := .frz o (.tup vs)) hq
    exact p _ _ _ l2 R2 (.tg (.inl ⟨o, upd_same, ho⟩) (d.le l2))
  · exact p.elim
def gTuple (ds : List D) (L : Sto) : Res D := match ds with
  | [.tup xs] => .ok (.tup xs) L
  | [.tg xs] => .ok (.tg xs) L
  | [d] => (match sqlOf L d with
    | some xs => newTG xs L
    | none => .bad)
  | _ => .bad
def rTupleU (K : PySem.W.Frag) : List V → Hp → VK → Prop := fun xs H Q => ∃ p ys, xs = [.ref p] ∧ ((SqL K H p ys ∧ ∀ l (o : Obj), o.dict = none → H l = none → Q (.ref l) (upd H l (.frz o (.tup ys)))) ∨ (SqT K H p ys ∧ Q (.ref p) H))
theorem gTuple_ok {G : Gb} : RnD G (rTupleU G.K) gTuple := by
  intro w L H x ds Q E R dx p
  unfold gTuple at p
  split at p
  · cases dx with
    | cons h t =>
      cases t
      cases h with
      | tup hq r => exact ⟨_, _, rfl, .inr ⟨R.sqT hq, Post.ok p (.refl w) R (.tup hq r)⟩⟩
  · cases dx with
    | cons h t =>
      cases t
      cases h with
      | tg hq r => exact ⟨_, _, rfl, .inr ⟨R.sqT hq.t, Post.ok p (.refl w) R (.tg hq r)⟩⟩
  · cases dx with
    | cons h t =>
      cases t
      split at p
      · rename_i xs hx
        obtain ⟨a, vs, rfl, hq, r⟩ := sql_at R h hx
        exact ⟨a, vs, rfl, .inl ⟨hq, fun q o ho hq => newTG_go p R r q o ho hq⟩⟩
      · exact p.elim
  · exact p.elim
theorem se_tuple (B : Bl S.g) (ha : SA S W (e :: es) fl) (hg : Glb S "tuple" := by rfl) (he : ∀ env, starEach (e :: es) env = (false, eval e env) :: starEach es env := by intro _; rfl) (hpl : ∀ env, (backTo pos (starEach es env)).any (·.1) = false := by intro _; rfl) :
    SE S W (.Call (.Name "tuple" p) (e :: es) [] pos) (en gTuple fl) := fun X h =>
  se_callT (T := "tuple") (r := rTupleU S.g.K) (fun X h => by rw [h.K]; exact call_tuple_g) gTuple_ok B.tuple (by decide +kernel) ha hg (by decide) (by decide) he hpl X h
/-- a tuple's display, a good one -/
theorem pe_tupG {X : Cx} {x1} {t : TA} (h : PA X es t) : PE X (.Tuple es x1 pos) (fun σ H Q => t σ H fun xs H1 => xs.length ≤ sizeLine ∧ ∀ p (o : Obj), o.dict = none → H1 p = none → Q (.ref p) (upd H1 p (.frz o (.tup xs)))) := by
  refine ⟨fun pins s σ H Q I hq => ?_⟩
  refine wpAny_Tuple_spliced (thn (h.run pos pins s σ H _ I hq) fun us s1 ⟨xs, H1, I1, r, z, q⟩ => ⟨by rw [← r.length]; exact z, ?_⟩)
  have hf : H1 s1.heap.objs.size = none := I1.hok.fresh (Nat.le_refl _)
  refine ⟨.ref s1.heap.objs.size, upd H1 s1.heap.objs.size (.frz { cls := .type "tuple", data := .seq us.toArray } (.tup xs)), I1.laid (t' := s1.toks) (fun b u e => Heap.get?_push_of_some _ e) (Nat.le_refl _) ?_, rfl, q _ _ rfl hf⟩
  exact ⟨Heap.get?_push_size _ rfl, z, us, r, ⟨_, Heap.get?_push_size _ rfl, rfl, _, rfl⟩⟩
def eTupG (f : AF) : EF := fun ρ L => (f ρ L).bind newTG
theorem se_tupG {k} (ha : SA S W es fl) : SE S W (.Tuple es k pos) (eTupG fl) := fun X h =>
  PE.imp (pe_tupG (ha X h)) fun σ H Q ⟨w, ρ, L, R, e, p⟩ => ⟨w, ρ, L, R, e, (Post.bind (rel := DenL S.g) p).imp (fun x H1 ⟨w1, d, L1, l1, R1, d1, p1⟩ =>
    ⟨newTG_post p1 d1.length, fun q o ho hq => newTG_go p1 R1 d1 q o ho hq⟩) fun _ _ _ z => z⟩
def dOfKey : Key → D
  | .inl i => .int i
  | .inr s => .str s
def gList (box : Bool) (ds : List D) (L : Sto) : Res D := match ds with
  | [d] => (match seqOf L d with
    | some (xs, _) => lstOut box xs L
    | none => (match dictOf L d with
      | some (.k kvs) => lstOut box (kvs.map fun kv => dOfKey kv.1) L
      | _ => .bad))
  | _ => .bad
def rListU (K : PySem.W.Frag) : List V → Hp → VK → Prop := fun xs H Q => (∃ p ys, xs = [.ref p] ∧ (SqL K H p ys ∨ SqT K H p ys) ∧ ∀ l, H l = none → Q (.ref l) (upd H l (.lst ys))) ∨ rListD xs H Q
theorem DenK.keysD {G : Gb} {w : Wd} : ∀ {vs : List (Key × V)} {ds : List (Key × D)}, DenK G w vs ds → DenL G w (vs.map fun kv => kV kv.1) (ds.map fun kv => dOfKey kv.1)
  | _, _, .nil => .nil
  | _, _, @DenK.cons _ _ k _ _ _ _ a t => .cons (by cases k <;> constructor) (DenK.keysD t)
theorem gList_ok {G : Gb} (box : Bool) : RnD G (rListU G.K) (gList box) := by
  intro w L H x ds Q E R dx p
  unfold gList at p
  split at p
  · cases dx with
    | cons h t =>
      cases t
      split at p
      · rename_i xs s hs
        obtain ⟨k, a, vs, rfl, hq, r⟩ := seq_now R h hs
        refine .inl ⟨a, vs, rfl, ?_, fun q hq => lstOut_go p R r q hq⟩
        cases k with
        | true => exact .inl hq
        | false => exact .inr hq
      · split at p
        · rename_i kvs hd
          obtain ⟨a, vs, rfl, hq, r⟩ := dk_at R h hd
          exact .inr ⟨a, vs, rfl, hq, fun q hq => lstOut_go p R r.keysD q hq⟩
        · exact p.elim
  · exact p.elim
theorem se_list (box : Bool) (B : Bl S.g) (ha : SA S W (e :: es) fl) (hg : Glb S "list" := by rfl) (he : ∀ env, starEach (e :: es) env = (false, eval e env) :: starEach es env := by intro _; rfl) (hpl : ∀ env, (backTo pos (starEach es env)).any (·.1) = false := by intro _; rfl) :
    SE S W (.Call (.Name "list" p) (e :: es) [] pos) (en (gList box) fl) := fun X h =>
  se_callT (T := "list") (r := rListU S.g.K) (fun X h => by rw [h.K]; exact call_list_of.or (call_list_dK h.calm)) (gList_ok box) B.list (by decide +kernel) ha hg (by decide) (by decide) he hpl X h
/-! list(range(..)), tuple(range(..)) -/
def rgOk (i j : Int) : Bool := small62 i && small62 j && decide ((j - i).toNat ≤ 16777216)
theorem rgOk_ok {i j : Int} (h : rgOk i j = true) : RgOk i j := by
  unfold rgOk at h
  obtain ⟨h1, h2⟩ := and2 h
  obtain ⟨h3, h4⟩ := and2 h1
  obtain ⟨a, b⟩ := small62_ok h3
  obtain ⟨c, d⟩ := small62_ok h4
  exact ⟨a, b, c, d, of_decide_eq_true h2⟩
theorem den_rg {G : Gb} {w : Wd} {i j : Int} : DenL G w (rgV i j) (rangeD i (j - i).toNat) := by
  unfold rgV rangeD
  have : ∀ l : List Nat, DenL G w (l.map fun k => V.int (i + (k : Nat))) (l.map fun (k : Nat) => D.int (i + (k : Int))) := fun l => by
    induction l with
    | nil => exact .nil
    | cons a t ih => exact .cons (.int _) ih
  exact this _
def eRange1 (f : EF) (k : List D → Sto → Res D) : EF := fun ρ L => (f ρ L).bind fun d L1 => match d with
  | .int j => if rgOk 0 j = true then k (rangeD 0 (j - 0).toNat) L1 else .bad
  | _ => .bad
def eRange2 (f g : EF) (k : List D → Sto → Res D) : EF := fun ρ L => (f ρ L).bind fun d L1 => (g ρ L1).bind fun e L2 => match d, e with
  | .int i, .int j => if rgOk i j = true then k (rangeD i (j - i).toNat) L2 else .bad
  | _, _ => .bad
theorem se_listRg1 {p1 p2 : Pos} (box : Bool) (B : Bl S.g) (ha : SE S W a fa) (hg : Glb S "list" := by rfl) (hg2 : Glb S "range" := by rfl) (na : ∀ env, starEach [a] env = (false, eval a env) :: starEach [] env := by intro _; rfl)
    (na2 : ∀ env, starEach [.Call (.Name "range" p1) [a] [] p2] env = (false, eval (.Call (.Name "range" p1) [a] [] p2) env) :: starEach [] env := by intro _; rfl) :
    SE S W (.Call (.Name "list" p) [.Call (.Name "range" p1) [a] [] p2] [] pos) (eRange1 fa (lstOut box)) := fun X h =>
  PE.imp (pe_listRg h.calm (by show X.env.scope.names.lookup _ = _; rw [← h.sc]; exact hg) (by rw [← h.mg]; exact B.list) (prg_1 (by show X.env.scope.names.lookup _ = _; rw [← h.sc]; exact hg2) (by rw [← h.mg]; exact B.range) (ha X h) (na _)) (na2 _)) fun σ H Q ⟨w, ρ, L, R, e, p⟩ =>
    ⟨w, ρ, L, R, e, (Post.bind (rel := Den S.g) p).imp (fun x H1 ⟨w1, d, L1, l1, R1, d1, p1⟩ => by
      split at p1
      · split at p1
        · rename_i hk
          cases d1
          exact ⟨_, rfl, rgOk_ok hk, fun q hq => lstOut_go p1 R1 den_rg q hq⟩
        · exact p1.elim
      · exact p1.elim) fun _ _ _ z => z⟩
theorem se_listRg2 {p1 p2 : Pos} (box : Bool) (B : Bl S.g) (ha : SE S W a fa) (hb : SE S W b fb) (hg : Glb S "list" := by rfl) (hg2 : Glb S "range" := by rfl) (na : ∀ env, starEach [a, b] env = (false, eval a env) :: starEach [b] env := by intro _; rfl) (nb : ∀ env, starEach [b] env = (false, eval b env) :: starEach [] env := by intro _; rfl)
    (hp : ∀ env, (backTo p2 (starEach [b] env)).any (·.1) = false := by intro _; rfl)
    (na2 : ∀ env, starEach [.Call (.Name "range" p1) [a, b] [] p2] env = (false, eval (.Call (.Name "range" p1) [a, b] [] p2) env) :: starEach [] env := by intro _; rfl) :
    SE S W (.Call (.Name "list" p) [.Call (.Name "range" p1) [a, b] [] p2] [] pos) (eRange2 fa fb (lstOut box)) := fun X h =>
  PE.imp (pe_listRg h.calm (by show X.env.scope.names.lookup _ = _; rw [← h.sc]; exact hg) (by rw [← h.mg]; exact B.list) (prg_2 (by show X.env.scope.names.lookup _ = _; rw [← h.sc]; exact hg2) (by rw [← h.mg]; exact B.range) (ha X h) (hb X h) (na _) (nb _) (hp _)) (na2 _)) fun σ H Q ⟨w, ρ, L, R, e, p⟩ =>
    ⟨w, ρ, L, R, e, (Post.bind (rel := Den S.g) p).imp (fun x H1 ⟨w1, d, L1, l1, R1, d1, p1⟩ =>
      ⟨w1, ρ, L1, R1, e.le l1, (Post.bind (rel := Den S.g) p1).imp (fun y H2 ⟨w2, d', L2, l2, R2, d2, p2⟩ => by
      split at p2
      · split at p2
        · rename_i hk
          cases d1
          cases d2
          exact ⟨_, _, rfl, rfl, rgOk_ok hk, fun q hq => lstOut_go p2 R2 den_rg q hq⟩
        · exact p2.elim
      · exact p2.elim) fun _ _ _ z => z⟩) fun _ _ _ z => z⟩
theorem se_tupRg1 {p1 p2 : Pos} (B : Bl S.g) (ha : SE S W a fa) (hg : Glb S "tuple" := by rfl) (hg2 : Glb S "range" := by rfl) (na : ∀ env, starEach [a] env = (false, eval a env) :: starEach [] env := by intro _; rfl)
    (na2 : ∀ env, starEach [.Call (.Name "range" p1) [a] [] p2] env = (false, eval (.Call (.Name "range" p1) [a] [] p2) env) :: starEach [] env := by intro _; rfl) :
    SE S W (.Call (.Name "tuple" p) [.Call (.Name "range" p1) [a] [] p2] [] pos) (eRange1 fa newT) := fun X h =>
  PE.imp (pe_tupRg h.calm (by show X.env.scope.names.lookup _ = _; rw [← h.sc]; exact hg) (by rw [← h.mg]; exact B.tuple) (prg_1 (by show X.env.scope.names.lookup _ = _; rw [← h.sc]; exact hg2) (by rw [← h.mg]; exact B.range) (ha X h) (na _)) (na2 _)) fun σ H Q ⟨w, ρ, L, R, e, p⟩ =>
    ⟨w, ρ, L, R, e, (Post.bind (rel := Den S.g) p).imp (fun x H1 ⟨w1, d, L1, l1, R1, d1, p1⟩ => by
      split at p1
      · split at p1
        · rename_i hk
          cases d1
          exact ⟨_, rfl, rgOk_ok hk, fun q hq => newT_go p1 R1 den_rg q hq⟩
        · exact p1.elim
      · exact p1.elim) fun _ _ _ z => z⟩
/-! sorted, ints -/
def srtI (ns : List Int) : List Int := ns.mergeSort (fun a b => decide (a ≤ b))
theorem sorted_unique : ∀ {as bs : List Int}, as.Perm bs → as.Pairwise (· ≤ ·) → bs.Pairwise (· ≤ ·) → as = bs
  | [], bs, h, _, _ => by rw [List.nil_perm.mp h]
  | a :: as, bs, h, h1, h2 => by
    cases bs with
    | nil => exact absurd h.length_eq (by simp)
    | cons b bs =>
      rw [List.pairwise_cons] at h1 h2
      have ha : a ∈ b :: bs := h.subset (List.mem_cons_self)
      have hb : b ∈ a :: as := h.symm.subset (List.mem_cons_self)
      have e : a = b := by
        rcases List.mem_cons.mp ha with x | x
        · exact x
        · rcases List.mem_cons.mp hb with y | y
          · exact y.symm
          · exact Int.le_antisymm (h1.1 _ y) (h2.1 _ x)
      subst e
      rw [sorted_unique (List.Perm.cons_inv h) h1.2 h2.2]
theorem srtI_sorted (ns : List Int) : (srtI ns).Pairwise (· ≤ ·) := by
  have := List.pairwise_mergeSort (le := fun a b : Int => decide (a ≤ b)) (by intro a b c h1 h2; simp at *; omega) (by intro a b; simp; omega) ns
  exact this.imp fun h => by simpa using h
theorem srtI_perm (ns : List Int) : (srtI ns).Perm ns := List.mergeSort_perm ns _
theorem srtI_unique {ns ms : List Int} (h : ms.Perm ns) (h1 : ms.Pairwise (· ≤ ·)) : ms = srtI ns := sorted_unique (h.trans (srtI_perm ns).symm) h1 (srtI_sorted ns)
def gSorted (box : Bool) (ds : List D) (L : Sto) : Res D := match ds with
  | [d] => (match sqlOf L d with
    | some xs => (match dInts xs with
      | some ns => lstOut box ((srtI ns).map D.int) L
      | none => .bad)
    | none => .bad)
  | _ => .bad
theorem gSorted_ok {G : Gb} (box : Bool) : RnD G (rSortedI G.K) (gSorted box) := by
  intro w L H x ds Q E R dx p
  unfold gSorted at p
  split at p
  · cases dx with
    | cons h t =>
      cases t
      split at p
      · rename_i xs hx
        split at p
        · rename_i ns hn
          obtain ⟨a, vs, rfl, hq, r⟩ := sql_at R h hx
          have := r.ints hn
          subst this
          refine ⟨a, ns, rfl, hq, fun ms q h1 h2 hq => ?_⟩
          rw [srtI_unique h1 h2]
          exact lstOut_go p R (.of_ints _) q hq
        · exact p.elim
      · exact p.elim
  · exact p.elim
theorem se_sorted (box : Bool) (B : Bl S.g) (ha : SA S W (e :: es) fl) (hg : Glb S "sorted" := by rfl) (he : ∀ env, starEach (e :: es) env = (false, eval e env) :: starEach es env := by intro _; rfl) (hpl : ∀ env, (backTo pos (starEach es env)).any (·.1) = false := by intro _; rfl) :
    SE S W (.Call (.Name "sorted" p) (e :: es) [] pos) (en (gSorted box) fl) := fun X h =>
  se_callB (id := "sorted") (r := rSortedI S.g.K) (fun X h => by rw [h.K]; exact cr_sortedI) (gSorted_ok box) B.sorted (by decide +kernel) ha hg (by decide) (by decide) he hpl X h
/-! isinstance of a built-in type -/
inductive Ty where
  | non | bl | int | str | tup | lst | dict
  deriving DecidableEq
def Ty.name : Ty → String
  | .non => "NoneType" | .bl => "bool" | .int => "int" | .str => "str" | .tup => "tuple" | .lst => "list" | .dict => "dict"
inductive Tc where
  | int | bl | str | tup | lst | dict
def Tc.name : Tc → String
  | .int => "int" | .bl => "bool" | .str => "str" | .tup => "tuple" | .lst => "list" | .dict => "dict"
def Tc.ty : Tc → Ty
  | .int => .int | .bl => .bl | .str => .str | .tup => .tup | .lst => .lst | .dict => .dict
def isiB (t : Ty) (c : Tc) : Bool := decide (t = c.ty) || (match t, c with
  | .bl, .int => true
  | _, _ => false)
theorem isiB_ok (t : Ty) (c : Tc) : kitB t.name c.name = some (isiB t c) := by
  cases t <;> cases c <;> decide +kernel
def tyOfL (L : Sto) (d : D) : Option Ty := match d with
  | .non => some .non
  | .bl _ => some .bl
  | .int _ => some .int
  | .str _ => some .str
  | .tup _ => some .tup
  | .tg _ => some .tup
  | .lst _ => some .lst
  | .dK _ => some .dict
  | .dT _ => some .dict
  | .loc n => (match L[n]? with
    | some (.lst _) => some .lst
    | some (.dK _) => some .dict
    | some (.dT _) => some .dict
    | _ => none)
  | _ => none
theorem sqT_ty {K : PySem.W.Frag} {H : Hp} {a : Addr} {vs : List V} (h : SqT K H a vs) : TyX K H (.ref a) (.type "tuple") := by
  rcases h with (h | ⟨o, h⟩) | ⟨o, _, _, h, h2⟩
  · exact .base (.tup h)
  · exact .fTuple h
  · exact .kTuple h h2.1
theorem ty_at {G : Gb} {w : Wd} {L : Sto} {H : Hp} {v : V} {d : D} {t : Ty} (R : Rel G w L H) (h : Den G w v d) (e : tyOfL L d = some t) : TyX G.K H v (.type t.name) := by
  cases h with
  | non => cases e; exact .base .non
  | bl b => cases e; exact .base (.bl b)
  | int b => cases e; exact .base (.int b)
  | str b => cases e; exact .base (.str b)
  | tup hq r => cases e; exact sqT_ty (R.sqT hq)
  | tg hq r => cases e; exact sqT_ty (R.sqT hq.t)
  | lst hq r => cases e; exact .base (.lst (R.sub _ _ hq))
  | dK hq r => cases e; exact .base (.dK (R.sub _ _ hq))
  | dT hq r => cases e; exact .base (.dT (R.sub _ _ hq))
  | loc hn =>
    dsimp only [tyOfL] at e
    split at e <;> first
      | (rename_i ys hy
         obtain ⟨o, h1, h2⟩ := R.box _ _ _ hn hy
         cases h2
         cases e
         first | exact .base (.lst h1) | exact .base (.dK h1) | exact .base (.dT h1))
      | cases e
  | _ => cases e
def gIsi (T : Tc) (d : D) (L : Sto) : Res D := match tyOfL L d with
  | some t => .ok (.bl (isiB t T)) L
  | none => .bad
def eIsi (T : Tc) (f : EF) : EF := fun ρ L => (f ρ L).bind (gIsi T)
theorem se_isi (T : Tc) {x : Str} {pT : Pos} (B : Bl S.g) (hm : S.g.mg x = none) (hx : bootBuiltins x = some (.type T.name)) (ha : SE S W e f) (hg : Glb S "isinstance" := by rfl) (hgT : Glb S x := by rfl)
    (he : ∀ env, starEach [e, .Name x pT] env = (false, eval e env) :: starEach [.Name x pT] env := by intro _; rfl)
    (he2 : ∀ env, starEach [.Name x pT] env = (false, eval (.Name x pT) env) :: starEach [] env := by intro _; rfl)
    (hpl : ∀ env, (backTo pos (starEach [.Name x pT] env)).any (·.1) = false := by intro _; rfl) (hn : x ≠ "__name__" := by decide) (hd : (x == ("__debug__" : Str)) = false := by decide) :
    SE S W (.Call (.Name "isinstance" p) [e, .Name x pT] [] pos) (eIsi T f) := fun X h =>
  PE.imp (pe_callB (call_isi (X := X)) (by show X.env.scope.names.lookup _ = _; rw [← h.sc]; exact hg) (by rw [← h.mg]; exact B.isinstance) (by decide +kernel)
    (pa_cons (ha X h) (pa_cons (pe_bltn (v := .ty T.name) (by show X.env.scope.names.lookup _ = _; rw [← h.sc]; exact hgT) (by rw [← h.mg]; exact hm) hx rfl hn hd) pa_nil (he2 _)) (he _)) (by decide) (by decide) (he _) (hpl _)) fun σ H Q ⟨w, ρ, L, R, e, p⟩ =>
    ⟨w, ρ, L, R, e, (Post.bind (rel := Den S.g) p).imp (fun v H1 ⟨w1, d, L1, l1, R1, d1, p1⟩ => by
      unfold gIsi at p1
      split at p1
      · rename_i t ht
        exact ⟨_, _, _, _, isiB t T, rfl, .ty _, by rw [← h.K]; exact ty_at R1 d1 ht, kit_ty (isiB_ok t T), Post.ok p1 (.refl _) R1 (.bl _)⟩
      · exact p1.elim) fun _ _ _ z => z⟩
/-! ### subscripts -/
def gIx (d e : D) (L : Sto) : Res D := match e with
  | .int i => (match seqOf L d with
    | some (xs, _) => (match atI xs i with
      | some y => .ok y L
      | none => .bad)
    | none => (match d with
      | .str z => if z.length ≤ 16777216 then (match atI z.cps.toList i with
        | some c => .ok (.str ⟨#[c]⟩) L
        | none => .bad) else .bad
      | _ => (match gLook L d e with
        | some (some y) => .ok y L
        | _ => .bad)))
  | .str _ => (match gLook L d e with
    | some (some y) => .ok y L
    | _ => .bad)
  | _ => .bad
theorem ixN_lt {n : Nat} {i : Int} {j : Nat} (h : ixN n i = some j) : j < n := by
  unfold ixN at h
  split at h
  · split at h
    · cases h; omega
    · cases h
  · split at h
    · cases h; omega
    · cases h
theorem DenL.atI {G : Gb} {w : Wd} {vs : List V} {ds : List D} {i : Int} {d : D} (r : DenL G w vs ds) (h : L2.atI ds i = some d) : ∃ v, L2.atI vs i = some v ∧ Den G w v d := by
  unfold L2.atI at h ⊢
  rw [← r.length] at h
  obtain ⟨j, h1, h2⟩ := Option.bind_eq_some_iff.mp h
  obtain ⟨v, h3, h4⟩ := r.get h2
  exact ⟨v, by rw [h1]; exact h3, h4⟩
def rIxU (K : PySem.W.Frag) : R2 := fun x y H Q => rIxL K x y H Q ∨ rIxT K x y H Q ∨ rIxS x y H Q
theorem pe_ixU {X : Cx} {a b : Expr} {pos : Pos} (hu : X.A.units + 1 < cLine) {t u : TE} (ha : PE X a t) (hb : PE X b u) (hs : PlainIx b) : PE X (.Subscript a b pos) (fun σ H Q => tOp (rIxU X.K) t u σ H Q ∨ tDGet t u σ H Q) :=
  PE.or (pe_ix (ix_list.or (ix_tup.or ix_str)) ha hb hs) (pe_dget hu ha hb hs)
theorem isStr_of {G : Gb} {w : Wd} {v : V} {z : Str} (h : Den G w v (.str z)) : v = .str z := by cases h; rfl
/-- is it a dict: by the data alone -/
theorem ix_dec {G : Gb} {w : Wd} {L : Sto} {H : Hp} {d e : D} {y : D} {L' : Sto} (p : gIx d e L = .ok y L') : L' = L ∧ ((∃ o, gLook L d e = some (some y) ∧ seqOf L d = none ∧ o = y) ∨
    (∃ i, e = .int i ∧ ((∃ xs s, seqOf L d = some (xs, s) ∧ L2.atI xs i = some y) ∨ ∃ z c, d = .str z ∧ z.length ≤ 16777216 ∧ L2.atI z.cps.toList i = some c ∧ y = .str ⟨#[c]⟩))) := by
  unfold gIx at p
  split at p
  · split at p
    · rename_i xs s hs
      split at p
      · rename_i yy hy
        cases p
        exact ⟨rfl, .inr ⟨_, rfl, .inl ⟨xs, s, hs, hy⟩⟩⟩
      · cases p
    · split at p
      · split at p
        · rename_i hz
          split at p
          · rename_i c hc
            cases p
            exact ⟨rfl, .inr ⟨_, rfl, .inr ⟨_, c, rfl, hz, hc, rfl⟩⟩⟩
          · cases p
        · cases p
      · split at p
        · rename_i hl
          cases p
          exact ⟨rfl, .inl ⟨_, hl, by assumption, rfl⟩⟩
        · cases p
  · split at p
    · rename_i hl
      cases p
      refine ⟨rfl, .inl ⟨_, hl, ?_, rfl⟩⟩
      unfold gLook at hl
      cases d <;> first | rfl | (dsimp only [dictOf] at hl; cases hl) | skip
      rename_i n
      dsimp only [dictOf] at hl
      dsimp only [seqOf]
      split at hl <;> first | cases hl | skip
      all_goals (rename_i hh; split at hh <;> first | cases hh | skip)
      all_goals (rename_i hq; rw [hq])
    · cases p
  · cases p
theorem se_ix (ha : SE S W a fa) (hb : SE S W b fb) (hs : PlainIx b := by intro _ _; rfl) : SE S W (.Subscript a b pos) (e2 gIx fa fb) := fun X h =>
  PE.imp (pe_ixU (by have := h.units; omega) (ha X h) (hb X h) hs) fun σ H Q ⟨w, ρ, L, R, e, p⟩ => by
    -- which way: by the values
    unfold e2 at p
    cases q1 : fa ρ L with
    | bad => rw [q1] at p; exact p.elim
    | err c x L1 => rw [q1] at p; exact .inl ⟨w, ρ, L, R, e, by rw [q1]; exact p⟩
    | ok d L1 =>
      rw [q1, Res.bind_ok] at p
      cases q2 : fb ρ L1 with
      | bad => rw [q2] at p; exact p.elim
      | err c x L2 => rw [q2] at p; exact .inl ⟨w, ρ, L, R, e, by rw [q1]; exact fun w1 H1 v l1 R1 d1 => ⟨w1, ρ, L1, R1, e.le l1, by rw [q2]; exact Post.le (r := .err c x L2) l1 p⟩⟩
      | ok k L2 =>
        rw [q2, Res.bind_ok] at p
        cases q3 : gIx d k L2 with
        | bad => rw [q3] at p; exact p.elim
        | err c x L3 =>
          exfalso
          unfold gIx at q3
          split at q3 <;> (try split at q3) <;> (try split at q3) <;> (try split at q3) <;> (try split at q3) <;> cases q3
        | ok y L3 =>
          rw [q3] at p
          obtain ⟨eL, hd⟩ := ix_dec (H := H) (G := S.g) (w := w) q3
          subst eL
          rcases hd with ⟨o, hl, hs, rfl⟩ | ⟨i, rfl, hh⟩
          · refine .inr ⟨w, ρ, L, R, e, by rw [q1]; exact fun w1 H1 v l1 R1 d1 => ⟨w1, ρ, L1, R1, e.le l1, by
              rw [q2]
              intro w2 H2 u l2 R2 d2
              have hk : ∀ b us, u = .ref b → SqT S.g.K w2.F b us → H2 b = some (.tup us) := by
                intro b us e1 _
                subst e1
                unfold gIx at q3
                split at q3
                · cases d2
                · cases d2
                · cases q3
              obtain ⟨a, ov, ea, g, od⟩ := look_at R2 (d1.le l2) d2 hl hk
              cases od with
              | some hv => exact ⟨a, _, ea, g, p w2 H2 _ (l1.trans l2) R2 hv⟩⟩⟩
          · refine .inl ⟨w, ρ, L, R, e, by rw [q1]; exact fun w1 H1 v l1 R1 d1 => ⟨w1, ρ, L1, R1, e.le l1, by
              rw [q2]
              intro w2 H2 u l2 R2 d2
              cases d2
              rw [← h.K]
              rcases hh with ⟨xs, s, hs, hy⟩ | ⟨z, c, rfl, hz, hc, rfl⟩
              · obtain ⟨kk, a, vs, rfl, hq, r⟩ := seq_now R2 (d1.le l2) hs
                obtain ⟨v', hv, dv⟩ := r.atI hy
                cases kk with
                | true => exact .inl ⟨a, vs, i, v', rfl, rfl, hq, hv, p w2 H2 _ (l1.trans l2) R2 dv⟩
                | false => exact .inr (.inl ⟨a, vs, i, v', rfl, rfl, hq, hv, p w2 H2 _ (l1.trans l2) R2 dv⟩)
              · cases d1
                exact .inr (.inr ⟨z, i, c, rfl, rfl, lineLe hz, hc, p w2 H2 _ (l1.trans l2) R2 (.str _)⟩)⟩⟩
/-! slices -/
def cutD (xs : List D) (lo hi : Option Int) : List D := (xs.drop (HT.sIx xs.length 0 lo)).take (HT.sIx xs.length xs.length hi - HT.sIx xs.length 0 lo)
theorem DenL.cut' {G : Gb} {w : Wd} {vs : List V} {ds : List D} (r : DenL G w vs ds) (lo hi : Option Int) : DenL G w (cutV vs lo hi) (cutD ds lo hi) := by
  unfold cutV cutD
  rw [r.length]
  exact (r.drop _).take _
abbrev OF := Env' → Sto → Res (Option Int)
def oNone : OF := fun _ L => .ok none L
def oSome (f : EF) : OF := fun ρ L => (f ρ L).bind fun d L1 => match d with
  | .int i => .ok (some i) L1
  | _ => .bad
def SO (S : Sc) (W : WX) (e : Option Expr) (f : OF) : Prop := ∀ X, S.Has W X → PO X e (tR S.g eqR W f)
theorem PO.imp {X : Cx} {e : Option Expr} {t u : TO} (h : PO X e t) (k : ∀ σ H Q, u σ H Q → t σ H Q) : PO X e u := ⟨fun pins s σ H Q I q => h.run pins s σ H Q I (k σ H Q q)⟩
theorem so_none : SO S W none oNone := fun X h => PO.imp po_none fun σ H Q ⟨w, ρ, L, R, e, p⟩ => Post.ok p (.refl w) R rfl
theorem so_some (ha : SE S W a fa) : SO S W (some a) (oSome fa) := fun X h => PO.imp (po_some (ha X h)) fun σ H Q ⟨w, ρ, L, R, e, p⟩ =>
  ⟨w, ρ, L, R, e, (Post.bind (rel := Den S.g) p).imp (fun v H1 ⟨w1, d, L1, l1, R1, d1, p1⟩ => by
    split at p1
    · cases d1; exact ⟨_, rfl, Post.ok p1 (.refl _) R1 rfl⟩
    · exact p1.elim) fun _ _ _ z => z⟩
def gSl0 (d : D) (lo hi : Option Int) (L : Sto) : Res D := match d with
  | .tup xs => .ok (.tup (cutD xs lo hi)) L
  | d => (match sqlOf L d with
    | some xs => .ok (.lst (cutD xs lo hi)) L
    | none => .bad)
def gSl (d : D) (l h : Option Int) (L : Sto) : Res D := gSl0 (lo d) l h L
def eSl (f : EF) (lo hi : OF) : EF := fun ρ L => (f ρ L).bind fun d L1 => (lo ρ L1).bind fun l L2 => (hi ρ L2).bind fun u L3 => gSl d l u L3
def rSlU (K : PySem.W.Frag) : V → Option Int → Option Int → Hp → VK → Prop := fun x lo hi H Q => rSlL K x lo hi H Q ∨ rSlA K x lo hi H Q
theorem gSl0_ok {G : Gb} {w : Wd} {L : Sto} {H : Hp} {x : V} {d : D} {lo hi : Option Int} {Q : VK} {E : XK} (R : Rel G w L H) (dx : Den G w x d) (p : Post G (Den G) w (gSl0 d lo hi L) Q E) : rSlU G.K x lo hi H Q := by
  unfold gSl0 at p
  split at p
  · rename_i xs
    cases dx with
    | @tup a vs _ hq r =>
      refine .inr ⟨a, vs, rfl, R.sqT hq, fun hw => ?_, fun hw q hq => ?_⟩
      · have hz : cutD xs lo hi = xs := by
          unfold cutD
          rw [← r.length, hw.1, hw.2, List.drop_zero, Nat.sub_zero, r.length]
          exact List.take_length
        rw [hz] at p
        exact Post.ok p (.refl w) R (.tup hq r)
      · obtain ⟨R2, l2⟩ := R.newF (o := .tup (cutV vs lo hi)) hq
        exact p _ _ _ l2 R2 (.tup (.inl (.inl upd_same)) ((r.cut' lo hi).le l2))
  · split at p
    · rename_i xs hx
      obtain ⟨a, vs, rfl, hq, r⟩ := sql_at R dx hx
      refine .inl ⟨a, vs, rfl, hq, fun q hq => ?_⟩
      obtain ⟨R2, l2⟩ := R.newF (o := .lst (cutV vs lo hi)) hq
      exact p _ _ _ l2 R2 (.lst upd_same ((r.cut' lo hi).le l2))
    · exact p.elim
theorem se_sl {lo hi : Option Expr} {fl fh : OF} {p2 : Pos} (ha : SE S W a fa) (hl : SO S W lo fl) (hh : SO S W hi fh) : SE S W (.Subscript a (.Slice lo hi none p2) pos) (eSl fa fl fh) := fun X h =>
  PE.imp (pe_slice (sl_list.or sl_tupA) (ha X h) (hl X h) (hh X h)) fun σ H Q ⟨w, ρ, L, R, e, p⟩ =>
    ⟨w, ρ, L, R, e, (Post.bind (rel := Den S.g) p).imp (fun v H1 ⟨w1, d, L1, l1, R1, d1, p1⟩ =>
      ⟨w1, ρ, L1, R1, e.le l1, (Post.bind (rel := eqR) p1).imp (fun l H2 ⟨w2, l', L2, l2, R2, d2, p2⟩ => by
        cases d2
        exact ⟨w2, ρ, L2, R2, (e.le l1).le l2, (Post.bind (rel := eqR) p2).imp (fun u H3 ⟨w3, u', L3, l3, R3, d3, p3⟩ => by
          cases d3
          rw [← h.K]
          exact gSl0_ok R3 (d1.le (l2.trans l3)).lo p3) fun _ _ _ z => z⟩) fun _ _ _ z => z⟩) fun _ _ _ z => z⟩
/-- xs[::-1], a list -/
def eRev (f : EF) : EF := fun ρ L => (f ρ L).bind fun d L1 => match sqlOf L1 d with
  | some xs => .ok (.lst xs.reverse) L1
  | none => .bad
theorem se_rev {k : Nat} {p1 p2 p3 : Pos} (ha : SE S W a fa) : SE S W (.Subscript a (.Slice none none (some (.UnaryOp .USub (.Constant (.int 1) k p1) p2)) p3) pos) (eRev fa) := fun X h =>
  PE.imp (pe_revL (ha X h)) fun σ H Q ⟨w, ρ, L, R, e, p⟩ =>
    ⟨w, ρ, L, R, e, (Post.bind (rel := Den S.g) p).imp (fun v H1 ⟨w1, d, L1, l1, R1, d1, p1⟩ => by
      split at p1
      · rename_i xs hx
        obtain ⟨a, vs, rfl, hq, r⟩ := sql_at R1 d1 hx
        rw [← h.K]
        refine ⟨a, vs, rfl, hq, fun q hq => ?_⟩
        obtain ⟨R2, l2⟩ := R1.newF (o := .lst vs.reverse) hq
        exact p1 _ _ _ l2 R2 (.lst upd_same (r.reverse.le l2))
      · exact p1.elim) fun _ _ _ z => z⟩
end
end DS
set_option Elab.async false
set_option linter.all false
set_option maxRecDepth 100000
set_option maxHeartbeats 4000000
namespace DS
open PySem PySem.Spec L2
open PyProof.Rows hiding St

section
variable {S : Sc} {W : WX} {a b e c o : Expr} {es : List Expr} {fa fb fc f fo : EF} {fl : AF} {pos p apos cpos : Pos}
open Classical in
/-- by the first value: two ways -/
theorem tR_split {k : Env' → D → Sto → Res D} (P : D → Sto → Prop) {σ : St} {H : Hp} {Q : VK} (q : tR S.g (Den S.g) W (fun ρ L => (f ρ L).bind (k ρ)) σ H Q) :
    tR S.g (Den S.g) W (fun ρ L => (f ρ L).bind fun d L1 => if P d L1 then k ρ d L1 else .bad) σ H Q ∨ tR S.g (Den S.g) W (fun ρ L => (f ρ L).bind fun d L1 => if P d L1 then .bad else k ρ d L1) σ H Q := by
  obtain ⟨w, ρ, L, R, e, p⟩ := q
  cases q1 : f ρ L with
  | bad => dsimp only at p; rw [q1] at p; exact p.elim
  | err c x L1 => refine .inl ⟨w, ρ, L, R, e, ?_⟩; dsimp only at p ⊢; rw [q1] at p ⊢; exact p
  | ok d L1 =>
    by_cases h : P d L1
    · refine .inl ⟨w, ρ, L, R, e, ?_⟩
      dsimp only at p ⊢
      rw [q1] at p ⊢
      simp only [Res.bind_ok, h, if_true] at p ⊢
      exact p
    · refine .inr ⟨w, ρ, L, R, e, ?_⟩
      dsimp only at p ⊢
      rw [q1] at p ⊢
      simp only [Res.bind_ok, h, if_false] at p ⊢
      exact p
/-! ### methods of lists -/
def isL (L : Sto) (d : D) : Bool := (sqlOf L d).isSome
def eBm (f : EF) (fl : AF) (g : D → List D → Sto → Res D) : EF := fun ρ L => (f ρ L).bind fun d L1 => if isL L1 d = true then (fl ρ L1).bind fun ds L2 => g d ds L2 else .bad
def RmD (G : Gb) (r : V → List V → Hp → VK → Prop) (g : D → List D → Sto → Res D) : Prop := ∀ (w : Wd) (L : Sto) (H : Hp) (x : V) (xs : List V) (d : D) (ds : List D) (Q : VK) (E : XK), Rel G w L H → Den G w x d → DenL G w xs ds → Post G (Den G) w (g d ds L) Q E → r x xs H Q
theorem isL_ty {G : Gb} {w : Wd} {L : Sto} {H : Hp} {v : V} {d : D} (R : Rel G w L H) (h : Den G w v d) (e : isL L d = true) : tyV G.K "list" v H := by
  obtain ⟨xs, hx⟩ := Option.isSome_iff_exists.mp e
  obtain ⟨a, vs, rfl, hq, r⟩ := sql_at R h hx
  exact .inl ⟨rfl, vs, hq⟩
theorem tBM_of {r : V → List V → Hp → VK → Prop} {g : D → List D → Sto → Res D} (hr : RmD S.g r g) {σ : St} {H : Hp} {Q : VK} (q : tR S.g (Den S.g) W (eBm f fl g) σ H Q) : tBM S.g.K "list" r (tR S.g (Den S.g) W f) (tR S.g (DenL S.g) W fl) σ H Q := by
  obtain ⟨w, ρ, L, R, e, p⟩ := q
  refine ⟨w, ρ, L, R, e, (Post.bind (rel := Den S.g) p).imp (fun x H1 ⟨w1, d, L1, l1, R1, d1, p1⟩ => ?_) fun _ _ _ z => z⟩
  split at p1
  · rename_i hl
    refine ⟨isL_ty R1 d1 hl, w1, ρ, L1, R1, e.le l1, (Post.bind (rel := DenL S.g) p1).imp (fun xs H2 ⟨w2, ds, L2, l2, R2, d2, p2⟩ => ?_) fun _ _ _ z => z⟩
    exact hr w2 L2 H2 x xs d ds Q _ R2 (d1.le l2) d2 p2
  · exact p1.elim
theorem tBM0_of {r : V → List V → Hp → VK → Prop} {g : D → List D → Sto → Res D} (hr : RmD S.g r g) {σ : St} {H : Hp} {Q : VK} (q : tR S.g (Den S.g) W (eBm f aNil g) σ H Q) : tBM0 S.g.K "list" r (tR S.g (Den S.g) W f) σ H Q := by
  obtain ⟨w, ρ, L, R, e, p⟩ := q
  refine ⟨w, ρ, L, R, e, (Post.bind (rel := Den S.g) p).imp (fun x H1 ⟨w1, d, L1, l1, R1, d1, p1⟩ => ?_) fun _ _ _ z => z⟩
  split at p1
  · rename_i hl
    exact ⟨isL_ty R1 d1 hl, hr w1 L1 H1 x [] d [] Q _ R1 d1 .nil p1⟩
  · exact p1.elim
theorem se_bm {name : Str} {id : String} {r : V → List V → Hp → VK → Prop} {g : D → List D → Sto → Res D} (slot : Slot "list" name id) (hty : typeOf (.builtin id) = pure (.type "method_descriptor")) (hm : ∀ X, S.Has W X → MtR X id r) (hr : RmD S.g r g)
    (ho : SE S W o fo) (ha : SA S W (e :: es) fl) (hbase : ∀ env, attributeBase o name env (eval o env) = eval o env)
    (hfew : ∀ env, ((backTo cpos (starEach (e :: es) env)).all (fun x => !x.1) && (backToKw cpos (keywordEach [] env)).all (fun x => x.1.isSome) && decide ((e :: es).length + ([] : List Keyword).length + (if ([] : List Keyword).isEmpty then 0 else 1) < 30)) = true)
    (hline : (apos.endLine == cpos.line) = true) (hs : ∀ env, starEach (e :: es) env = (false, eval e env) :: starEach es env) (hplain : ∀ env, (backTo cpos (starEach es env)).any (·.1) = false) :
    SE S W (.Call (.Attribute o name apos) (e :: es) [] cpos) (eBm fo fl g) := fun X h =>
  PE.imp (pe_bm PySem.F.plainAttrs_list slot hty (hm X h) (ho X h) (ha X h) (hbase _) (hfew _) hline (hs _) (hplain _)) fun σ H Q q => by rw [← h.K]; exact tBM_of hr q
theorem se_bm0 {name : Str} {id : String} {r : V → List V → Hp → VK → Prop} {g : D → List D → Sto → Res D} (slot : Slot "list" name id) (hty : typeOf (.builtin id) = pure (.type "method_descriptor")) (hm : ∀ X, S.Has W X → MtR X id r) (hr : RmD S.g r g)
    (ho : SE S W o fo) (hbase : ∀ env, attributeBase o name env (eval o env) = eval o env) (hline : (apos.endLine == cpos.line) = true) :
    SE S W (.Call (.Attribute o name apos) [] [] cpos) (eBm fo aNil g) := fun X h =>
  PE.imp (pe_bm0 PySem.F.plainAttrs_list slot hty (hm X h) (ho X h) (hbase _) hline) fun σ H Q q => by rw [← h.K]; exact tBM0_of hr q
/-- a box's list -/
def boxL (L : Sto) (d : D) : Option (Nat × List D) := match d with
  | .loc n => (match L[n]? with
    | some (.lst xs) => some (n, xs)
    | _ => none)
  | _ => none
theorem box_at {G : Gb} {w : Wd} {L : Sto} {H : Hp} {v : V} {d : D} {n : Nat} {xs : List D} (R : Rel G w L H) (h : Den G w v d) (e : boxL L d = some (n, xs)) : ∃ a vs, v = .ref a ∧ w.φ[n]? = some a ∧ H a = some (.lst vs) ∧ DenL G w vs xs := by
  cases h with
  | @loc n a hn =>
    dsimp only [boxL] at e
    split at e
    · rename_i ys hy
      cases e
      obtain ⟨o, h1, h2⟩ := R.box _ _ _ hn hy
      cases h2 with
      | lst r => exact ⟨a, _, rfl, hn, h1, r⟩
    · cases e
  | _ => cases e
def gAppend (d : D) (ds : List D) (L : Sto) : Res D := match ds, boxL L d with
  | [y], some (n, xs) => if xs.length < 16777216 then .ok .non (L.set n (.lst (xs ++ [y]))) else .bad
  | _, _ => .bad
theorem gAppend_ok {G : Gb} : RmD G rAppend gAppend := by
  intro w L H x xs d ds Q E R dx dxs p
  unfold gAppend at p
  split at p
  · rename_i y n ys hb
    split at p
    · rename_i hz
      obtain ⟨a, vs, rfl, hn, ha, r⟩ := box_at R dx hb
      cases dxs with
      | cons h t =>
        cases t
        exact ⟨a, vs, _, rfl, rfl, ha, by rw [r.length]; exact lineLt hz, p w _ _ (.refl w) (R.put hn (.lst (r.snoc h))) .non⟩
    · exact p.elim
  · exact p.elim
def gPop0 (d : D) (ds : List D) (L : Sto) : Res D := match ds, boxL L d with
  | [], some (n, xs) => (match xs[xs.length - 1]? with
    | some y => .ok y (L.set n (.lst xs.dropLast))
    | none => .bad)
  | _, _ => .bad
theorem DenL.dropLast {G : Gb} {w : Wd} {vs : List V} {ds : List D} (r : DenL G w vs ds) : DenL G w vs.dropLast ds.dropLast := by
  rw [List.dropLast_eq_take, List.dropLast_eq_take, r.length]
  exact r.take _
theorem gPop0_ok {G : Gb} : RmD G rPop gPop0 := by
  intro w L H x xs d ds Q E R dx dxs p
  unfold gPop0 at p
  split at p
  · rename_i n ys hb
    split at p
    · rename_i y hy
      obtain ⟨a, vs, rfl, hn, ha, r⟩ := box_at R dx hb
      cases dxs
      rw [← r.length] at hy
      obtain ⟨v, hv, dv⟩ := r.get hy
      exact ⟨a, vs, v, rfl, rfl, ha, hv, p w _ _ (.refl w) (R.put hn (.lst r.dropLast)) dv⟩
    · exact p.elim
  · exact p.elim
def gPopAt (d : D) (ds : List D) (L : Sto) : Res D := match ds, boxL L d with
  | [.int i], some (n, xs) => if small62 i = true then (match ixN xs.length i with
    | some j => (match xs[j]? with
      | some y => .ok y (L.set n (.lst (xs.eraseIdx j)))
      | none => .bad)
    | none => .bad) else .bad
  | _, _ => .bad
theorem gPopAt_ok {G : Gb} : RmD G rPopAt gPopAt := by
  intro w L H x xs d ds Q E R dx dxs p
  unfold gPopAt at p
  split at p
  · rename_i i n ys hb
    split at p
    · rename_i hi
      split at p
      · rename_i j hj
        split at p
        · rename_i y hy
          obtain ⟨a, vs, rfl, hn, ha, r⟩ := box_at R dx hb
          obtain ⟨h1, h2⟩ := small62_ok hi
          cases dxs with
          | cons h t =>
            cases t
            cases h
            rw [← r.length] at hj
            obtain ⟨v, hv, dv⟩ := r.get hy
            exact ⟨a, vs, i, j, v, rfl, rfl, ha, by omega, by omega, (ixN_seq hj).1, hv, p w _ _ (.refl w) (R.put hn (.lst (r.eraseIdx j))) dv⟩
        · exact p.elim
      · exact p.elim
    · exact p.elim
  · exact p.elim
def gExtend (d : D) (ds : List D) (L : Sto) : Res D := match ds, boxL L d with
  | [y], some (n, xs) => (match lstOf L y with
    | some ys => if xs.length + ys.length ≤ 16777216 then .ok .non (L.set n (.lst (xs ++ ys))) else .bad
    | none => .bad)
  | _, _ => .bad
theorem gExtend_ok {G : Gb} : RmD G rExtend gExtend := by
  intro w L H x xs d ds Q E R dx dxs p
  unfold gExtend at p
  split at p
  · rename_i y n ys hb
    split at p
    · rename_i zs hzs
      split at p
      · rename_i hz
        obtain ⟨a, vs, rfl, hn, ha, r⟩ := box_at R dx hb
        cases dxs with
        | cons h t =>
          cases t
          obtain ⟨b, us, rfl, hb2, r2⟩ := lst_at R h hzs
          exact ⟨a, b, vs, us, rfl, rfl, ha, hb2, by rw [r.length, r2.length]; exact lineLe hz, p w _ _ (.refl w) (R.put hn (.lst (r.append r2))) .non⟩
      · exact p.elim
    · exact p.elim
  · exact p.elim
def gLIndex (d : D) (ds : List D) (L : Sto) : Res D := match ds, sqlOf L d with
  | [y], some xs => if dFlat y = true ∧ xs.all dFlat = true then (match xs.findIdx? fun z => dEqF z y with
    | some j => .ok (.int (j : Nat)) L
    | none => .bad) else .bad
  | _, _ => .bad
theorem all_get {α : Type} {p : α → Bool} {l : List α} (h : l.all p = true) {i : Nat} {x : α} (e : l[i]? = some x) : p x = true := List.all_eq_true.mp h x (List.mem_of_getElem? e)
theorem gLIndex_ok {G : Gb} : RmD G (rIndex G.K) gLIndex := by
  intro w L H x xs d ds Q E R dx dxs p
  unfold gLIndex at p
  split at p
  · rename_i y ys hq
    split at p
    · rename_i hf
      split at p
      · rename_i j hj
        obtain ⟨a, vs, rfl, hs, r⟩ := sql_at R dx hq
        cases dxs with
        | cons h t =>
          cases t
          obtain ⟨h1, h2, h3⟩ := List.findIdx?_eq_some_iff_getElem.mp hj
          have hz : ys[j]? = some ys[j] := List.getElem?_eq_getElem h1
          obtain ⟨v, hv, dv⟩ := r.get hz
          refine ⟨a, vs, _, j, v, rfl, rfl, hs, h.flat hf.1, r.flat hf.2, hv, ?_, fun m z' hm hz' => ?_, Post.ok p (.refl w) R (.int _)⟩
          · rw [dv.eqF h (all_get hf.2 hz) hf.1]; exact h2
          · obtain ⟨d', hd', dd'⟩ := r.get' hz'
            rw [dd'.eqF h (all_get hf.2 hd') hf.1]
            obtain ⟨hl, e⟩ := List.getElem?_eq_some_iff.mp hd'
            have := h3 m hm
            rw [e] at this
            simpa using this
      · exact p.elim
    · exact p.elim
  · exact p.elim
def gLCount (d : D) (ds : List D) (L : Sto) : Res D := match ds, sqlOf L d with
  | [.int k], some xs => (match dInts xs with
    | some ns => .ok (.int (ns.count k : Nat)) L
    | none => .bad)
  | _, _ => .bad
theorem gLCount_ok {G : Gb} : RmD G (rCntI G.K) gLCount := by
  intro w L H x xs d ds Q E R dx dxs p
  unfold gLCount at p
  split at p
  · rename_i k ys hq
    split at p
    · rename_i ns hn
      obtain ⟨a, vs, rfl, hs, r⟩ := sql_at R dx hq
      have := r.ints hn
      subst this
      cases dxs with
      | cons h t =>
        cases t
        cases h
        exact ⟨a, ns, k, rfl, rfl, hs, Post.ok p (.refl w) R (.int _)⟩
    · exact p.elim
  · exact p.elim
theorem se_append (ho : SE S W o fo) (ha : SA S W [e] fl) (hbase : ∀ env, attributeBase o "append" env (eval o env) = eval o env := by intro _; rfl)
    (hfew : ∀ env, ((backTo cpos (starEach [e] env)).all (fun x => !x.1) && (backToKw cpos (keywordEach [] env)).all (fun x => x.1.isSome) && decide (([e] : List Expr).length + ([] : List Keyword).length + (if ([] : List Keyword).isEmpty then 0 else 1) < 30)) = true := by intro _; rfl)
    (hline : (apos.endLine == cpos.line) = true := by rfl) (hs : ∀ env, starEach [e] env = (false, eval e env) :: starEach [] env := by intro _; rfl) (hplain : ∀ env, (backTo cpos (starEach [] env)).any (·.1) = false := by intro _; rfl) :
    SE S W (.Call (.Attribute o "append" apos) [e] [] cpos) (eBm fo fl gAppend) := se_bm PySem.F.slot_list_append PySem.F.type_list_append (fun X h => mt_append) gAppend_ok ho ha hbase hfew hline hs hplain
theorem se_extend (ho : SE S W o fo) (ha : SA S W [e] fl) (hbase : ∀ env, attributeBase o "extend" env (eval o env) = eval o env := by intro _; rfl)
    (hfew : ∀ env, ((backTo cpos (starEach [e] env)).all (fun x => !x.1) && (backToKw cpos (keywordEach [] env)).all (fun x => x.1.isSome) && decide (([e] : List Expr).length + ([] : List Keyword).length + (if ([] : List Keyword).isEmpty then 0 else 1) < 30)) = true := by intro _; rfl)
    (hline : (apos.endLine == cpos.line) = true := by rfl) (hs : ∀ env, starEach [e] env = (false, eval e env) :: starEach [] env := by intro _; rfl) (hplain : ∀ env, (backTo cpos (starEach [] env)).any (·.1) = false := by intro _; rfl) :
    SE S W (.Call (.Attribute o "extend" apos) [e] [] cpos) (eBm fo fl gExtend) := se_bm PySem.F.slot_list_extend PySem.F.type_list_extend (fun X h => mt_extend) gExtend_ok ho ha hbase hfew hline hs hplain
theorem se_popAt (ho : SE S W o fo) (ha : SA S W [e] fl) (hbase : ∀ env, attributeBase o "pop" env (eval o env) = eval o env := by intro _; rfl)
    (hfew : ∀ env, ((backTo cpos (starEach [e] env)).all (fun x => !x.1) && (backToKw cpos (keywordEach [] env)).all (fun x => x.1.isSome) && decide (([e] : List Expr).length + ([] : List Keyword).length + (if ([] : List Keyword).isEmpty then 0 else 1) < 30)) = true := by intro _; rfl)
    (hline : (apos.endLine == cpos.line) = true := by rfl) (hs : ∀ env, starEach [e] env = (false, eval e env) :: starEach [] env := by intro _; rfl) (hplain : ∀ env, (backTo cpos (starEach [] env)).any (·.1) = false := by intro _; rfl) :
    SE S W (.Call (.Attribute o "pop" apos) [e] [] cpos) (eBm fo fl gPopAt) := se_bm PySem.F.slot_list_pop PySem.F.type_list_pop (fun X h => mt_popAt) gPopAt_ok ho ha hbase hfew hline hs hplain
theorem se_pop0 (ho : SE S W o fo) (hbase : ∀ env, attributeBase o "pop" env (eval o env) = eval o env := by intro _; rfl) (hline : (apos.endLine == cpos.line) = true := by rfl) :
    SE S W (.Call (.Attribute o "pop" apos) [] [] cpos) (eBm fo aNil gPop0) := se_bm0 PySem.F.slot_list_pop PySem.F.type_list_pop (fun X h => mt_pop) gPop0_ok ho hbase hline
/-! ### count, index: a list's or a good tuple's -/
def rCountT (K : PySem.W.Frag) : V → List V → Hp → VK → Prop := fun x xs H Q => ∃ (a : Addr) (y : V) (d : PyData) (vs : List V) (ds : List PyData), x = V.ref a ∧ xs = [y] ∧ SqT K H a vs ∧ DpAll K H vs ds ∧ Dp K H y d ∧
  SeqAt.shaped (.list ds) = true ∧ SeqAt.shaped d = true ∧ Q (.int ((ds.countP fun z => PyData.eqv z d : Nat) : Int)) H
theorem mt_tcount {X : Cx} (hu : X.A.units + 65 < cLine) : MtR X "tuple.count" (rCountT X.K) := by
  intro pins s σ H x xs v us Q I rx rxs h
  obtain ⟨a, y, d, vs, ds, rfl, rfl, hs, ha, hy, sl, sd, q⟩ := h
  cases rx
  cases rxs with
  | cons ry rt =>
    rename_i uy ut
    cases rt
    obtain ⟨bs, r1⟩ := Dp.reads I d y uy hy ry
    have hxs : PyData.canLayAll0 ds = true := SeqAt.canLay_of_shaped sl
    have hroom : X.A.units + 1 + min (PyData.depthAll ds) d.depth < cLine := room_in_shaped sd hu
    obtain ⟨its, rv, ⟨⟨cls, dd, data, sls⟩, ho, hc, n, hdt⟩, hlen⟩ := I.tuple hs
    simp only at hc hdt
    subst hc hdt
    obtain ⟨as, h4⟩ := Dp.readsAll I ds _ its ha rv
    have hmap : its.map (SeqAt.readOf s.heap) = ds := SeqAt.readsAll_map ds its as hxs h4
    refine call_meets PySem.F.slot_tuple_count ⟨_, ho, rfl⟩ PySem.F.entry_tuple_count (PySem.F.args_tuple_count_2 _ _)
      (SeqAt.tuple_countAt a its.toArray n dd sls uy (fun u => PyData.eqv (SeqAt.readOf s.heap u) d)) ⟨ho, SeqAt.items_eqAt (vs := its.toArray) (show ReadsAll s.heap its.toArray.toList ds as from h4) r1 hxs (SeqAt.canLay_of_shaped sd) hroom, ?_⟩
    refine ⟨.int ((ds.countP fun z => PyData.eqv z d : Nat) : Int), H, I.tok _, ⟨s.toks, ?_⟩, q⟩
    have : its.toArray.toList.countP (fun u => PyData.eqv (SeqAt.readOf s.heap u) d) = ds.countP fun z => PyData.eqv z d := by
      rw [← hmap, List.countP_map]; rfl
    rw [this]
theorem sqG_is {X : Cx} {pins : List (Addr × Obj)} {σ : St} {H : Hp} {s : Shared} {a : Addr} {xs : List V} (I : Inv X pins σ H s) (h : SqG X.K H a xs) : s.TypeIs (.ref a) "tuple" ∧ ∀ b, Value.ref a = .ref b → ∃ ob, s.heap.get? b = some ob ∧ ob.dict = none := by
  rcases h with ⟨o, h, hd⟩ | ⟨o, its, n, hk, hc, hd, _⟩
  · obtain ⟨e, _, its, _, o', e', hc, _⟩ := (show ObjOk X.prog X.w H s.heap a (.frz o (.tup xs)) from I.hok a _ h)
    rw [e] at e'
    cases e'
    exact ⟨⟨o, e, hc⟩, fun b z => by cases z; exact ⟨o, e, hd⟩⟩
  · exact ⟨⟨o, I.kIn a o hk, hc⟩, fun b z => by cases z; exact ⟨o, I.kIn _ o hk, hd⟩⟩
def tGM (K : PySem.W.Frag) (r : V → List V → Hp → VK → Prop) (to : TE) (t : TA) : TE := fun σ H Q => to σ H fun x H1 => (∃ a vs, x = .ref a ∧ SqG K H1 a vs) ∧ t σ H1 fun xs H2 => r x xs H2 Q
theorem pe_gm {X : Cx} {to : TE} {t : TA} {name : Str} {id : String} {r : V → List V → Hp → VK → Prop} (slot : Slot "tuple" name id) (hty : typeOf (.builtin id) = pure (.type "method_descriptor")) (hm : MtR X id r) (ho : PE X o to) (ha : PA X (e :: es) t)
    (hbase : attributeBase o name X.env (eval o X.env) = eval o X.env)
    (hfew : ((backTo cpos (starEach (e :: es) X.env)).all (fun x => !x.1) && (backToKw cpos (keywordEach [] X.env)).all (fun x => x.1.isSome) && decide ((e :: es).length + ([] : List Keyword).length + (if ([] : List Keyword).isEmpty then 0 else 1) < 30)) = true)
    (hline : (apos.endLine == cpos.line) = true) (hs : starEach (e :: es) X.env = (false, eval e X.env) :: starEach es X.env) (hplain : (backTo cpos (starEach es X.env)).any (·.1) = false) :
    PE X (.Call (.Attribute o name apos) (e :: es) [] cpos) (tGM X.K r to t) := by
  refine ⟨fun pins s σ H Q I h => ?_⟩
  refine wpAny_Call_method_late hbase hfew hline rfl (thn (ho.run pins s σ H _ I h) fun v s1 ⟨x, H1, I1, r1, ⟨a, vs, ex, hg⟩, q1⟩ => ?_)
  subst ex
  obtain rfl : v = Value.ref a := r1
  obtain ⟨h1, h2⟩ := sqG_is I1 hg
  refine ⟨"tuple", id, PySem.F.plainAttrs_tuple, slot, hty, h1, h2, ?_⟩
  have hA := ha.run cpos pins s1 σ H1 _ I1 q1
  rw [hs] at hA ⊢
  refine Calls.callWith_builtin (by show (false || (backTo cpos (starEach es X.env)).any (·.1)) = false; rw [hplain] <;> rfl) (Calls.evalArgs_plain ?_)
  exact thn hA fun us s2 ⟨xs, H2, I2, r2, q2⟩ => hm pins s2 σ H2 (.ref a) xs (.ref a) us Q I2 rfl r2 q2
end
end DS
set_option Elab.async false
set_option linter.all false
set_option maxRecDepth 100000
set_option maxHeartbeats 4000000
namespace DS
open PySem PySem.Spec L2
open PyProof.Rows hiding St

section
variable {S : Sc} {W : WX} {a b e c o i : Expr} {es : List Expr} {fa fb fc f fo fi fx fk fv : EF} {fl : AF} {pos p apos cpos : Pos}
/-! ### count -/
theorem canLay_ints : ∀ ns : List Int, PyData.canLayAll0 (ns.map PyData.int) = true
  | [] => rfl
  | n :: ns => canLay_ints ns
theorem depth_ints : ∀ ns : List Int, PyData.depthAll (ns.map PyData.int) ≤ 1
  | [] => by decide
  | n :: ns => by
    have h := depth_ints ns
    show max (PyData.depth (.int n)) (PyData.depthAll (ns.map PyData.int)) ≤ 1
    have : PyData.depth (.int n) ≤ 1 := by simp [PyData.depth]
    omega
theorem shaped_ints (ns : List Int) : SeqAt.shaped (.list (ns.map PyData.int)) = true := by
  refine and2' (canLay_ints ns) (decide_eq_true ?_)
  have h := depth_ints ns
  simp only [PyData.depth]
  omega
theorem dp_ints {K : PySem.W.Frag} {H : Hp} : ∀ ns : List Int, DpAll K H (ns.map V.int) (ns.map PyData.int)
  | [] => .nil
  | n :: ns => .cons (.int n) (dp_ints ns)
theorem count_ints (k : Int) : ∀ ns : List Int, ((ns.map PyData.int).countP fun z => PyData.eqv z (.int k)) = ns.count k
  | [] => rfl
  | n :: ns => by
    rw [List.map_cons, List.countP_cons, count_ints k ns, List.count_cons]
    rfl
def gTCount (d : D) (ds : List D) (L : Sto) : Res D := match ds, d with
  | [.int k], .tg xs => (match dInts xs with
    | some ns => .ok (.int (ns.count k : Nat)) L
    | none => .bad)
  | _, _ => .bad
theorem gTCount_ok {G : Gb} : RmD G (rCountT G.K) gTCount := by
  intro w L H x xs d ds Q E R dx dxs p
  unfold gTCount at p
  split at p
  · rename_i k ys
    split at p
    · rename_i ns hn
      cases dx with
      | tg hq r =>
        have := r.ints hn
        subst this
        cases dxs with
        | cons h t =>
          cases t
          cases h
          refine ⟨_, _, .int k, _, ns.map PyData.int, rfl, rfl, (R.sqG hq).t, dp_ints ns, .int k, shaped_ints ns, rfl, ?_⟩
          rw [count_ints]
          exact Post.ok p (.refl w) R (.int _)
    · exact p.elim
  · exact p.elim
def isG : D → Bool
  | .tg _ => true
  | _ => false
def gCount (d : D) (ds : List D) (L : Sto) : Res D := if isG d = true then gTCount d ds L else gLCount d ds L
def eCm (g : D → List D → Sto → Res D) (f : EF) (fl : AF) : EF := fun ρ L => (f ρ L).bind fun d L1 => if isG d = true ∨ isL L1 d = true then (fl ρ L1).bind fun ds L2 => g d ds L2 else .bad
theorem tGM_of {r : V → List V → Hp → VK → Prop} {g : D → List D → Sto → Res D} (hr : RmD S.g r g) {σ : St} {H : Hp} {Q : VK}
    (q : tR S.g (Den S.g) W (fun ρ L => (f ρ L).bind fun d L1 => if isG d = true then (fl ρ L1).bind fun ds L2 => g d ds L2 else .bad) σ H Q) : tGM S.g.K r (tR S.g (Den S.g) W f) (tR S.g (DenL S.g) W fl) σ H Q := by
  obtain ⟨w, ρ, L, R, e, p⟩ := q
  refine ⟨w, ρ, L, R, e, (Post.bind (rel := Den S.g) p).imp (fun x H1 ⟨w1, d, L1, l1, R1, d1, p1⟩ => ?_) fun _ _ _ z => z⟩
  split at p1
  · rename_i hl
    refine ⟨?_, w1, ρ, L1, R1, e.le l1, (Post.bind (rel := DenL S.g) p1).imp (fun xs H2 ⟨w2, ds, L2, l2, R2, d2, p2⟩ => hr w2 L2 H2 x xs d ds Q _ R2 (d1.le l2) d2 p2) fun _ _ _ z => z⟩
    cases d1 with
    | tg hq r => exact ⟨_, _, rfl, R1.sqG hq⟩
    | _ => cases hl
  · exact p1.elim
open Classical in
theorem tCm_of {r r' : V → List V → Hp → VK → Prop} {g g1 g2 : D → List D → Sto → Res D} (h1 : RmD S.g r g1) (h2 : RmD S.g r' g2) (hg : ∀ d ds L, g d ds L = if isG d = true then g1 d ds L else g2 d ds L) {σ : St} {H : Hp} {Q : VK} (q : tR S.g (Den S.g) W (eCm g f fl) σ H Q) :
    tGM S.g.K r (tR S.g (Den S.g) W f) (tR S.g (DenL S.g) W fl) σ H Q ∨ tBM S.g.K "list" r' (tR S.g (Den S.g) W f) (tR S.g (DenL S.g) W fl) σ H Q := by
  rcases tR_split (f := f) (k := fun ρ d L1 => if isG d = true ∨ isL L1 d = true then (fl ρ L1).bind fun ds L2 => g d ds L2 else .bad) (fun d _ => isG d = true) q with q | q
  · refine .inl (tGM_of h1 ?_)
    obtain ⟨w, ρ, L, R, e, p⟩ := q
    refine ⟨w, ρ, L, R, e, ?_⟩
    dsimp only at p ⊢
    cases q1 : f ρ L with
    | bad => rw [q1] at p; exact p
    | err c x L1 => rw [q1] at p; exact p
    | ok d L1 =>
      rw [q1] at p
      simp only [Res.bind_ok] at p ⊢
      by_cases hd : isG d = true
      · simp only [hd, if_true, true_or, hg] at p ⊢; exact p
      · simp only [hd, if_false] at p; exact p.elim
  · refine .inr (tBM_of h2 ?_)
    obtain ⟨w, ρ, L, R, e, p⟩ := q
    refine ⟨w, ρ, L, R, e, ?_⟩
    unfold eBm
    dsimp only at p ⊢
    cases q1 : f ρ L with
    | bad => rw [q1] at p; exact p
    | err c x L1 => rw [q1] at p; exact p
    | ok d L1 =>
      rw [q1] at p
      simp only [Res.bind_ok] at p ⊢
      by_cases hd : isG d = true
      · simp only [hd, if_true] at p; exact p.elim
      · have hd' : isG d = false := by simpa using hd
        simp only [hd', Bool.false_eq_true, if_false, false_or, hg] at p ⊢; exact p
theorem se_count (ho : SE S W o fo) (ha : SA S W [e] fl) (hbase : ∀ env, attributeBase o "count" env (eval o env) = eval o env := by intro _; rfl)
    (hfew : ∀ env, ((backTo cpos (starEach [e] env)).all (fun x => !x.1) && (backToKw cpos (keywordEach [] env)).all (fun x => x.1.isSome) && decide (([e] : List Expr).length + ([] : List Keyword).length + (if ([] : List Keyword).isEmpty then 0 else 1) < 30)) = true := by intro _; rfl)
    (hline : (apos.endLine == cpos.line) = true := by rfl) (hs : ∀ env, starEach [e] env = (false, eval e env) :: starEach [] env := by intro _; rfl) (hplain : ∀ env, (backTo cpos (starEach [] env)).any (·.1) = false := by intro _; rfl) :
    SE S W (.Call (.Attribute o "count" apos) [e] [] cpos) (eCm gCount fo fl) := fun X h =>
  PE.imp (PE.or (pe_gm PySem.F.slot_tuple_count PySem.F.type_tuple_count (mt_tcount h.units65) (ho X h) (ha X h) (hbase _) (hfew _) hline (hs _) (hplain _))
    (pe_bm PySem.F.plainAttrs_list PySem.F.slot_list_count PySem.F.type_list_count mt_lcount (ho X h) (ha X h) (hbase _) (hfew _) hline (hs _) (hplain _))) fun σ H Q q => by
    rw [← h.K]; exact tCm_of gTCount_ok gLCount_ok (fun _ _ _ => rfl) q
theorem se_lindex (ho : SE S W o fo) (ha : SA S W [e] fl) (hbase : ∀ env, attributeBase o "index" env (eval o env) = eval o env := by intro _; rfl)
    (hfew : ∀ env, ((backTo cpos (starEach [e] env)).all (fun x => !x.1) && (backToKw cpos (keywordEach [] env)).all (fun x => x.1.isSome) && decide (([e] : List Expr).length + ([] : List Keyword).length + (if ([] : List Keyword).isEmpty then 0 else 1) < 30)) = true := by intro _; rfl)
    (hline : (apos.endLine == cpos.line) = true := by rfl) (hs : ∀ env, starEach [e] env = (false, eval e env) :: starEach [] env := by intro _; rfl) (hplain : ∀ env, (backTo cpos (starEach [] env)).any (·.1) = false := by intro _; rfl) :
    SE S W (.Call (.Attribute o "index" apos) [e] [] cpos) (eBm fo fl gLIndex) := fun X h => se_bm (r := rIndex S.g.K) PySem.F.slot_list_index PySem.F.type_list_index (fun X h => by rw [h.K]; exact mt_index) gLIndex_ok ho ha hbase hfew hline hs hplain X h
/-! ### o[i] = v -/
theorem PS.or {X : Cx} {e : Stmt} {t u : TS} (h : PS X e t) (k : PS X e u) : PS X e (fun D σ H => t D σ H ∨ u D σ H) := ⟨fun pins s σ H D I q => q.elim (h.run pins s σ H D I) (k.run pins s σ H D I)⟩
def putAt (d k v : D) (L : Sto) : Option Sto := match d with
  | .loc n => (match L[n]? with
    | some (.lst xs) => (match k with
      | .int i => (ixN xs.length i).map fun j => L.set n (.lst (xs.set j v))
      | _ => none)
    | some (.dK kvs) => (match dKey k with
      | some key => if kvs.length < 16777216 then some (L.set n (.dK (putD kvs key v))) else none
      | none => none)
    | _ => none)
  | _ => none
def sPut (fv fo fi : EF) : SF := fun ρ L => sBind (fv ρ L) ρ fun v L1 => sBind (fo ρ L1) ρ fun d L2 => sBind (fi ρ L2) ρ fun k L3 => match putAt d k v L3 with
  | some L' => .nx ρ L'
  | none => .bad
theorem putAt_cases {G : Gb} {w : Wd} {L L' : Sto} {H : Hp} {x y z : V} {d k v : D} (R : Rel G w L H) (dx : Den G w x d) (dy : Den G w y k) (dz : Den G w z v) (e : putAt d k v L = some L') :
    (∃ n, d = .loc n ∧ ∃ xs, L[n]? = some (.lst xs)) ∧ (∃ p xs i j H', x = .ref p ∧ y = .int i ∧ H p = some (.lst xs) ∧ ixN xs.length i = some j ∧ H' = upd H p (.lst (xs.set j z)) ∧ Rel G w L' H') ∨
    (∃ n, d = .loc n ∧ ∃ xs, L[n]? = some (.dK xs)) ∧ ∃ a H', x = .ref a ∧ DPut H a y z H' ∧ Rel G w L' H' := by
  cases dx with
  | @loc n a hn =>
    dsimp only [putAt] at e
    split at e
    · rename_i xs hxs
      split at e
      · rename_i i
        cases dy
        obtain ⟨j, hj, rfl⟩ := Option.map_eq_some_iff.mp e
        obtain ⟨ob, h1, h2⟩ := R.box _ _ _ hn hxs
        cases h2 with
        | lst r =>
          rw [← r.length] at hj
          exact .inl ⟨⟨n, rfl, xs, hxs⟩, a, _, i, j, _, rfl, rfl, h1, hj, rfl, R.put hn (.lst (r.set dz j))⟩
      · cases e
    · rename_i kvs hxs
      split at e
      · rename_i key hkey
        split at e
        · rename_i hz
          cases e
          obtain ⟨ob, h1, h2⟩ := R.box _ _ _ hn hxs
          cases h2 with
          | dK r =>
            rw [dy.key hkey]
            exact .inr ⟨⟨n, rfl, kvs, hxs⟩, a, _, rfl, DPut.k h1 (by rw [r.length]; exact lineLt hz), R.put hn (.dK (r.put dz))⟩
        · cases e
      · cases e
    · cases e
  | _ => cases e
theorem ss_put (hv : SE S W e fv) (ho : SE S W o fo) (hi : SE S W i fi) {spos : Pos}
    (hs : ∀ env, swapsWithSole [.Subscript o i spos] e pos.line env = pure false := by intro _; rfl) (hw : ∀ env, swappedStores [.Subscript o i spos] e env = pure none := by intro _; rfl)
    (h1 : ∀ env, (assignEach [.Subscript o i spos] env).map (·.2) = [assign (.Subscript o i spos) env] := by intro _; rfl)
    (ha : ∀ env v, assign (.Subscript o i spos) env v = (do
      let ov ← holding [v] (eval o env)
      let iv ← holding [v, ov] (eval i env)
      standAt spos
      holding [v, ov, iv] (setItem ov iv v)
      release [v, ov, iv] []) := by intro _ _; rfl)
    (hs2 : ∀ env, swapsWith e (some (.Subscript o i spos)) pos.line env = pure false := by intro _; rfl) :
    SS S W (.Assign [.Subscript o i spos] e pos) (sPut fv fo fi) := fun X h =>
  PS.imp (PS.or (ps_asg (hv X h) (pg_sub (ho X h) (hi X h) set_list (ha _)) (hs _) (hw _) (h1 _)) (ps_dput (by have := h.units; omega) (ho X h) (hi X h) (hv X h) (hs2 _))) fun D σ H ⟨w, ρ, L, R, e, p⟩ => by
    unfold sPut at p
    cases q1 : fv ρ L with
    | bad => rw [q1] at p; exact p.elim
    | err c x L1 => rw [q1] at p; exact .inl ⟨w, ρ, L, R, e, by rw [q1]; exact fun w1 H1 dx l R1 x1 C m => p w1 σ H1 dx l R1 (e.le l) x1 C m⟩
    | ok v L1 =>
      rw [q1, sBind_ok] at p
      cases q2 : fo ρ L1 with
      | bad => rw [q2] at p; exact p.elim
      | err c x L2 =>
        rw [q2] at p
        exact .inl ⟨w, ρ, L, R, e, by rw [q1]; exact fun w1 H1 u l1 R1 d1 => ⟨w1, ρ, L1, R1, e.le l1, by rw [q2]; exact fun w2 H2 dx l R2 x2 C m => p w2 σ H2 dx (l1.trans l) R2 ((e.le l1).le l) x2 C m⟩⟩
      | ok d L2 =>
        rw [q2, sBind_ok] at p
        cases q3 : fi ρ L2 with
        | bad => rw [q3] at p; exact p.elim
        | err c x L3 =>
          rw [q3] at p
          exact .inl ⟨w, ρ, L, R, e, by rw [q1]; exact fun w1 H1 u l1 R1 d1 => ⟨w1, ρ, L1, R1, e.le l1, by rw [q2]; exact fun w2 H2 u2 l2 R2 d2 => ⟨w2, ρ, L2, R2, (e.le l1).le l2, by
            rw [q3]; exact fun w3 H3 dx l R3 x3 C m => p w3 σ H3 dx ((l1.trans l2).trans l) R3 (((e.le l1).le l2).le l) x3 C m⟩⟩⟩
        | ok k L3 =>
          rw [q3, sBind_ok] at p
          cases q4 : putAt d k v L3 with
          | none => rw [q4] at p; exact p.elim
          | some L' =>
            rw [q4] at p
            by_cases hl : ∃ n, d = .loc n ∧ ∃ xs, L3[n]? = some (.lst xs)
            · refine .inl ⟨w, ρ, L, R, e, by rw [q1]; exact fun w1 H1 u l1 R1 d1 => ⟨w1, ρ, L1, R1, e.le l1, by rw [q2]; exact fun w2 H2 u2 l2 R2 d2 => ⟨w2, ρ, L2, R2, (e.le l1).le l2, by
                rw [q3]
                intro w3 H3 u3 l3 R3 d3
                rcases putAt_cases R3 (d2.le l3) d3 (d1.le (l2.trans l3)) q4 with ⟨_, pa, xs, ii, j, H', e1, e2, e3, e4, e5, R'⟩ | ⟨⟨n, e1, xs, e2⟩, _⟩
                · subst e5
                  exact ⟨pa, xs, ii, j, e1, e2, e3, e4, p w3 σ _ ((l1.trans l2).trans l3) R' (((e.le l1).le l2).le l3)⟩
                · obtain ⟨n', e3, ys, e4⟩ := hl
                  rw [e1] at e3; cases e3
                  rw [e2] at e4; cases e4⟩⟩⟩
            · refine .inr ⟨w, ρ, L, R, e, by rw [q1]; exact fun w1 H1 u l1 R1 d1 => ⟨w1, ρ, L1, R1, e.le l1, by rw [q2]; exact fun w2 H2 u2 l2 R2 d2 => ⟨w2, ρ, L2, R2, (e.le l1).le l2, by
                rw [q3]
                intro w3 H3 u3 l3 R3 d3
                rcases putAt_cases R3 (d2.le l3) d3 (d1.le (l2.trans l3)) q4 with ⟨z, _⟩ | ⟨_, a, H', e1, e2, R'⟩
                · exact absurd z hl
                · exact ⟨a, H', e1, e2, p w3 σ _ ((l1.trans l2).trans l3) R' (((e.le l1).le l2).le l3)⟩⟩⟩⟩
/-! ### dicts -/
def dOut (box : Bool) (ds : List (Key × D)) (L : Sto) : Res D := if box = true then .ok (.loc L.length) (L ++ [.dK ds]) else .ok (.dK ds) L
def eDict0 (box : Bool) : EF := fun _ L => dOut box [] L
theorem dOut_go {G : Gb} {w : Wd} {L : Sto} {H : Hp} {vs : List (Key × V)} {xs : List (Key × D)} {Q : VK} {E : XK} {box : Bool} (p : Post G (Den G) w (dOut box xs L) Q E) (R : Rel G w L H) (d : DenK G w vs xs) (q : Addr) (hq : H q = none) : Q (.ref q) (upd H q (.dK vs)) := by
  unfold dOut at p
  split at p
  · obtain ⟨R2, l2⟩ := R.newB (o := .dK vs) (c := .dK xs) hq (.dK (DenK.le (w := w) (w' := ⟨w.F, w.φ ++ [q], w.prv⟩) ⟨⟨fun _ _ _ r => r, fun n a e => (List.getElem?_append_left (getElem?_lt e)).trans e, fun _ _ r => r⟩, rfl⟩ d))
    refine p _ _ _ l2 R2 (.loc ?_)
    show (w.φ ++ [q])[L.length]? = some q
    rw [← R.len, List.getElem?_append_right (Nat.le_refl _)]
    simp
  · obtain ⟨R2, l2⟩ := R.newF (o := .dK vs) hq
    exact p _ _ _ l2 R2 (.dK upd_same (d.le l2))
theorem se_dict0 (box : Bool) : SE S W (.Dict [] [] pos) (eDict0 box) := fun X h => PE.imp pe_dnewK fun σ H Q ⟨w, ρ, L, R, e, p⟩ => fun q hq => dOut_go p R .nil q hq
/-- what stands by itself is a dict's value at the end -/
theorem dOut_end {G : Gb} {w0 w : Wd} {L : Sto} {H : Hp} {vs : List (Key × V)} {xs : List (Key × D)} {Q : VK} {E : XK} {box : Bool} {q : Addr} {o : HO} (p : Post G (Den G) w0 (dOut box xs L) Q E) (R : Rel G w L H) (l : w0.le0 w) (hp : w.prv q = some o)
    (hq : ∀ a u, w0.prv a = some u → a ≠ q ∧ w.prv a = some u) (d : DenK G w vs xs) : Q (.ref q) (upd H q (.dK vs)) := by
  have R1 := R.putP (o' := .dK vs) hp
  have l1 : w.le0 ⟨w.F, w.φ, upd w.prv q (.dK vs)⟩ := Wd.prv_le _ _
  have hp1 : (⟨w.F, w.φ, upd w.prv q (.dK vs)⟩ : Wd).prv q = some (.dK vs) := upd_same
  have hq1 : ∀ a u, w0.prv a = some u → a ≠ q ∧ (⟨w.F, w.φ, upd w.prv q (.dK vs)⟩ : Wd).prv a = some u := fun a u h => ⟨(hq a u h).1, by show upd w.prv q (.dK vs) a = some u; rw [upd_ne (hq a u h).1]; exact (hq a u h).2⟩
  unfold dOut at p
  cases box with
  | true =>
    rw [if_pos rfl] at p
    obtain ⟨Rz, lz⟩ := R1.outB hp1 (.dK (d.le0 l1)) w0.prv hq1
    refine p _ _ _ ⟨(l.trans l1).trans lz, rfl⟩ Rz (.loc ?_)
    show (w.φ ++ [q])[L.length]? = some q
    rw [← R.len, List.getElem?_append_right (Nat.le_refl _)]
    simp
  | false =>
    rw [if_neg (by decide)] at p
    obtain ⟨Rz, lz⟩ := R1.outP hp1 w0.prv hq1
    exact p _ _ _ ⟨(l.trans l1).trans lz, rfl⟩ Rz (.dK upd_same ((d.le0 l1).le0 lz))
/-! displays -/
abbrev PF := Env' → Sto → Res (List (D × D))
def prsF : List (EF × EF) → PF
  | [] => fun _ L => .ok [] L
  | (fk, fv) :: r => fun ρ L => (fk ρ L).bind fun k L1 => (fv ρ L1).bind fun v L2 => (prsF r ρ L2).bind fun ps L3 => .ok ((k, v) :: ps) L3
def trsOf (S : Sc) (W : WX) (fs : List (EF × EF)) : List (TE × TE) := fs.map fun p => (tR S.g (Den S.g) W p.1, tR S.g (Den S.g) W p.2)
inductive DenP (G : Gb) (w : Wd) : List (V × V) → List (D × D) → Prop where
  | nil : DenP G w [] []
  | cons {x y : V} {d e : D} {ps : List (V × V)} {qs : List (D × D)} (h : Den G w x d) (k : Den G w y e) (t : DenP G w ps qs) : DenP G w ((x, y) :: ps) ((d, e) :: qs)
theorem tPairs_of {σ : St} {ρ : Env'} : ∀ (fs : List (EF × EF)) {w : Wd} {L : Sto} {H : Hp} {Q : List (V × V) → Hp → Prop}, Rel S.g w L H → EnvR S.g w σ ρ → Post S.g (DenP S.g) w (prsF fs ρ L) Q (fun c dx H' => W c dx σ H') → tPairs (trsOf S W fs) σ H Q
  | [], w, L, H, Q, R, e, p => Post.ok p (.refl w) R .nil
  | (fk, fv) :: r, w, L, H, Q, R, e, p =>
    ⟨w, ρ, L, R, e, (Post.bind (rel := Den S.g) p).imp (fun x H1 ⟨w1, d, L1, l1, R1, d1, p1⟩ =>
      ⟨w1, ρ, L1, R1, e.le l1, (Post.bind (rel := Den S.g) p1).imp (fun y H2 ⟨w2, d', L2, l2, R2, d2, p2⟩ =>
        tPairs_of r R2 ((e.le l1).le l2) ((Post.bind (rel := DenP S.g) p2).imp (fun ps H3 ⟨w3, qs, L3, l3, R3, d3, p3⟩ =>
          Post.ok p3 (.refl _) R3 (.cons (d1.le (l2.trans l3)) (d2.le l3) d3)) fun _ _ _ z => z)) fun _ _ _ z => z⟩) fun _ _ _ z => z⟩
def SPs (S : Sc) (W : WX) (pos : Pos) (ks : List (Option Expr)) (vs : List Expr) (fs : List (EF × EF)) : Prop := ∀ X, S.Has W X → PPs X pos ks vs (trsOf S W fs)
theorem sp_nil : SPs S W pos [] [] [] := fun X h => pps_nil
theorem sp_cons {ks : List (Option Expr)} {vs : List Expr} {fs : List (EF × EF)} (hk : SE S W a fa) (hv : SE S W b fb) (hr : SPs S W pos ks vs fs) : SPs S W pos (some a :: ks) (b :: vs) ((fa, fb) :: fs) := fun X h => pps_cons (hk X h) (hv X h) (hr X h)
def keyPs : List (D × D) → Option (List (Key × D))
  | [] => some []
  | (k, v) :: r => match dKey k, keyPs r with
    | some k, some r => some ((k, v) :: r)
    | _, _ => none
def mergeD (kvs more : List (Key × D)) : List (Key × D) := more.foldl (fun acc kv => putD acc kv.1 kv.2) kvs
theorem keyPs_at {G : Gb} {w : Wd} : ∀ {ps : List (V × V)} {qs : List (D × D)} {kds : List (Key × D)}, DenP G w ps qs → keyPs qs = some kds → ∃ kvs : List (Key × V), ps = kvs.map (fun kv => (kV kv.1, kv.2)) ∧ DenK G w kvs kds
  | _, _, _, .nil, e => by cases e; exact ⟨[], rfl, .nil⟩
  | _, (k, v) :: qs, _, .cons h hk t, e => by
    unfold keyPs at e
    split at e
    · rename_i key r h1 h2
      cases e
      obtain ⟨kvs, rfl, d⟩ := keyPs_at t h2
      have := h.key h1
      subst this
      exact ⟨(key, _) :: kvs, rfl, .cons hk d⟩
    · cases e
theorem merge_den {G : Gb} {w : Wd} : ∀ {kvs more : List (Key × V)} {kds mds : List (Key × D)}, DenK G w kvs kds → DenK G w more mds → DenK G w (mergeK kvs more) (mergeD kds mds)
  | _, _, _, _, h, .nil => h
  | kvs, _, kds, _, h, @DenK.cons _ _ k v d vs ds a t => by
    show DenK G w (mergeK (putK kvs k v) vs) (mergeD (putD kds k d) ds)
    exact merge_den (DenK.put h a) t
def eDisp (box : Bool) (fs : List (EF × EF)) : EF := fun ρ L => (prsF fs ρ L).bind fun ps L1 => match keyPs ps with
  | some kds => if kds.length ≤ 15 then dOut box (mergeD [] kds) L1 else .bad
  | none => .bad
theorem se_disp (box : Bool) {ks : List (Option Expr)} {vs : List Expr} {fs : List (EF × EF)} (h : SPs S W pos ks vs fs) (hall : ks.all (·.isSome) = true := by rfl) (hl : ks.length = vs.length := by rfl) (h0 : ks ≠ [] := by exact List.cons_ne_nil _ _) (h15 : ks.length ≤ 15 := by decide) :
    SE S W (.Dict ks vs pos) (eDisp box fs) := fun X hX =>
  PE.imp (pe_disp (h X hX) hall hl h0 h15) fun σ H Q ⟨w, ρ, L, R, e, p⟩ => fun q hq => by
    have R2 := R.newP (o := .dK []) hq
    have l0 : w.le0 ⟨w.F, w.φ, upd w.prv q (.dK [])⟩ := Wd.prv_le _ _
    refine tPairs_of fs R2 (e.le0 l0) ?_
    unfold eDisp at p
    -- the same results in the world with the new dict by itself
    cases q1 : prsF fs ρ L with
    | bad => rw [q1] at p; exact p
    | err c x L1 =>
      rw [q1] at p
      intro w1 H1 dx l1 R1 x1 C m
      have hp : w1.prv q = some (.dK []) := by rw [l1.same]; exact upd_same
      have hq2 : ∀ a u, w.prv a = some u → a ≠ q ∧ w1.prv a = some u := fun a u h => by
        have na : a ≠ q := fun z => by rw [z] at h; rw [(R.prv _ _ h).1] at hq; cases hq
        exact ⟨na, by rw [l1.same]; show upd w.prv q (.dK []) a = some u; rw [upd_ne na]; exact h⟩
      obtain ⟨Rz, lz⟩ := R1.outP hp w.prv hq2
      refine p _ H1 dx ⟨(l0.trans l1.tole0).trans lz, rfl⟩ Rz ?_ C m
      rcases x1 with h | ⟨ad, fs, h1, h2, h3⟩
      · exact .inl h
      · exact .inr ⟨ad, fs, h1, lz.dir _ _ h2, h3.le0 lz⟩
    | ok ps L1 =>
      rw [q1] at p
      intro w1 H1 us l1 R1 d1
      dsimp only [Res.bind] at p
      split at p
      · rename_i kds hk
        split at p
        · rename_i hz
          obtain ⟨kvs, ep, dk⟩ := keyPs_at d1 hk
          have hp : w1.prv q = some (.dK []) := by rw [l1.same]; exact upd_same
          have hq2 : ∀ a u, w.prv a = some u → a ≠ q ∧ w1.prv a = some u := fun a u h => by
            have na : a ≠ q := fun z => by rw [z] at h; rw [(R.prv _ _ h).1] at hq; cases hq
            exact ⟨na, by rw [l1.same]; show upd w.prv q (.dK []) a = some u; rw [upd_ne na]; exact h⟩
          exact ⟨(R1.prv _ _ hp).1, kvs, ep, by rw [dk.length]; exact hz, dOut_end p R1 (l0.trans l1.tole0) hp hq2 (merge_den .nil dk)⟩
        · exact p.elim
      · exact p.elim
/-! get, setdefault -/
def isDk (L : Sto) (d : D) : Bool := (dictOf L d).isSome
theorem isDk_at {G : Gb} {w : Wd} {L : Sto} {H : Hp} {v : V} {d : D} (R : Rel G w L H) (h : Den G w v d) (e : isDk L d = true) : ∃ a, v = .ref a ∧ IsD H a := by
  obtain ⟨x, hx⟩ := Option.isSome_iff_exists.mp e
  cases x with
  | k kvs => obtain ⟨a, vs, rfl, hq, r⟩ := dk_at R h hx; exact ⟨a, rfl, .inl ⟨vs, .inl hq⟩⟩
  | t kvs => obtain ⟨a, vs, rfl, hq, r⟩ := dt_at R h hx; exact ⟨a, rfl, .inr ⟨vs, .inl hq⟩⟩
/-- a dict with plain keys at a plain key -/
def gLookK (L : Sto) (d k : D) : Option (Option D) := match dictOf L d, dKey k with
  | some (.k kvs), some key => some (valD kvs key)
  | _, _ => none
theorem lookK_at {G : Gb} {w : Wd} {L : Sto} {H : Hp} {v u : V} {d k : D} {o : Option D} (R : Rel G w L H) (h : Den G w v d) (hk : Den G w u k) (e : gLookK L d k = some o) : ∃ a ov, v = .ref a ∧ DGet H a u ov ∧ OD G w ov o := by
  unfold gLookK at e
  split at e
  · rename_i kvs key h1 h2
    cases e
    obtain ⟨a, vs, rfl, ha, r⟩ := dk_at R h h1
    rw [hk.key h2]
    exact ⟨a, _, rfl, DGet.k ha, r.val key⟩
  · cases e
def eGet2 (fo fk fx : EF) : EF := fun ρ L => (fo ρ L).bind fun d L1 => if isDk L1 d = true then (fk ρ L1).bind fun k L2 => (fx ρ L2).bind fun x L3 => match gLookK L3 d k with
  | some (some y) => .ok y L3
  | some none => .ok x L3
  | none => .bad else .bad
theorem OD.getD {G : Gb} {w : Wd} {ov : Option V} {od : Option D} {x : V} {d : D} (h : OD G w ov od) (hx : Den G w x d) : Den G w (ov.getD x) (od.getD d) := by
  cases h with
  | none => exact hx
  | some h => exact h
theorem se_get2 (ho : SE S W o fo) (hk : SE S W a fk) (hx : SE S W b fx) (m : ∀ X : Cx, M2 X o "get" apos a b cpos := by intro _; exact ⟨rfl, rfl, rfl, rfl⟩) : SE S W (.Call (.Attribute o "get" apos) [a, b] [] cpos) (eGet2 fo fk fx) := fun X h =>
  PE.imp (pe_dget2 (by have := h.units; omega) (ho X h) (hk X h) (hx X h) (m X)) fun σ H Q ⟨w, ρ, L, R, e, p⟩ =>
    ⟨w, ρ, L, R, e, (Post.bind (rel := Den S.g) p).imp (fun v H1 ⟨w1, d, L1, l1, R1, d1, p1⟩ => by
      split at p1
      · rename_i hd
        obtain ⟨a, rfl, ia⟩ := isDk_at R1 d1 hd
        refine ⟨a, rfl, ia, w1, ρ, L1, R1, e.le l1, (Post.bind (rel := Den S.g) p1).imp (fun y H2 ⟨w2, k, L2, l2, R2, d2, p2⟩ => ?_) fun _ _ _ z => z⟩
        refine ⟨w2, ρ, L2, R2, (e.le l1).le l2, (Post.bind (rel := Den S.g) p2).imp (fun z H3 ⟨w3, x, L3, l3, R3, d3, p3⟩ => ?_) fun _ _ _ z => z⟩
        cases hl : gLookK L3 d k with
        | none => rw [hl] at p3; exact p3.elim
        | some oo =>
          obtain ⟨a', ov, ea, g, od⟩ := lookK_at R3 (d1.le (l2.trans l3)) (d2.le l3) hl
          cases ea
          refine ⟨ov, g, ?_⟩
          rw [hl] at p3
          cases od with
          | none => exact Post.ok p3 (.refl _) R3 d3
          | some hv => exact Post.ok p3 (.refl _) R3 hv
      · exact p1.elim) fun _ _ _ z => z⟩
def boxK (L : Sto) (d : D) : Option (Nat × List (Key × D)) := match d with
  | .loc n => (match L[n]? with
    | some (.dK xs) => some (n, xs)
    | _ => none)
  | _ => none
theorem boxK_at {G : Gb} {w : Wd} {L : Sto} {H : Hp} {v : V} {d : D} {n : Nat} {xs : List (Key × D)} (R : Rel G w L H) (h : Den G w v d) (e : boxK L d = some (n, xs)) : ∃ a vs, v = .ref a ∧ w.φ[n]? = some a ∧ H a = some (.dK vs) ∧ DenK G w vs xs := by
  cases h with
  | @loc n a hn =>
    dsimp only [boxK] at e
    split at e
    · rename_i ys hy
      cases e
      obtain ⟨o, h1, h2⟩ := R.box _ _ _ hn hy
      cases h2 with
      | dK r => exact ⟨a, _, rfl, hn, h1, r⟩
    · cases e
  | _ => cases e
def eSetd (fo fk fx : EF) : EF := fun ρ L => (fo ρ L).bind fun d L1 => if isDk L1 d = true then (fk ρ L1).bind fun k L2 => (fx ρ L2).bind fun x L3 => match boxK L3 d, dKey k with
  | some (n, kvs), some key => if kvs.length < 16777216 then (match valD kvs key with
    | some y => .ok y L3
    | none => .ok x (L3.set n (.dK (putD kvs key x)))) else .bad
  | _, _ => .bad else .bad
theorem se_setd (ho : SE S W o fo) (hk : SE S W a fk) (hx : SE S W b fx) (m : ∀ X : Cx, M2 X o "setdefault" apos a b cpos := by intro _; exact ⟨rfl, rfl, rfl, rfl⟩) : SE S W (.Call (.Attribute o "setdefault" apos) [a, b] [] cpos) (eSetd fo fk fx) := fun X h =>
  PE.imp (pe_dsetd (ho X h) (hk X h) (hx X h) (m X)) fun σ H Q ⟨w, ρ, L, R, e, p⟩ =>
    ⟨w, ρ, L, R, e, (Post.bind (rel := Den S.g) p).imp (fun v H1 ⟨w1, d, L1, l1, R1, d1, p1⟩ => by
      split at p1
      · rename_i hd
        obtain ⟨a, rfl, ia⟩ := isDk_at R1 d1 hd
        refine ⟨a, rfl, ia, w1, ρ, L1, R1, e.le l1, (Post.bind (rel := Den S.g) p1).imp (fun y H2 ⟨w2, k, L2, l2, R2, d2, p2⟩ => ?_) fun _ _ _ z => z⟩
        refine ⟨w2, ρ, L2, R2, (e.le l1).le l2, (Post.bind (rel := Den S.g) p2).imp (fun z H3 ⟨w3, x, L3, l3, R3, d3, p3⟩ => ?_) fun _ _ _ z => z⟩
        split at p3
        · rename_i n kvs key hb hk2
          split at p3
          · rename_i hz
            obtain ⟨a', vs, ea, hn, ha, r⟩ := boxK_at R3 (d1.le (l2.trans l3)) hb
            cases ea
            refine ⟨vs, key, ha, (d2.le l3).key hk2, by rw [r.length]; exact lineLt hz, fun v hv => ?_, fun hv => ?_⟩
            · have od := r.val key
              rw [hv] at od
              generalize valD kvs key = vd at od p3
              cases od with
              | some hd => exact Post.ok p3 (.refl _) R3 hd
            · have od := r.val key
              rw [hv] at od
              generalize hvd : valD kvs key = vd at od p3
              cases od
              exact p3 w3 _ _ (.refl _) (R3.put hn (.dK (r.put d3))) d3
          · exact p3.elim
        · exact p3.elim
      · exact p1.elim) fun _ _ _ z => z⟩
end
end DS
set_option Elab.async false
set_option linter.all false
set_option maxRecDepth 100000
set_option maxHeartbeats 4000000
namespace DS
open PySem PySem.Spec L2
open PyProof.Rows hiding St

/-! ### comprehensions of any kind: what they gather stands by itself at Dd -/
abbrev CS := Env' → D → Sto → Res D
open Classical in
noncomputable def cGo (src : List (Nat × D)) (tg : GF) (t : TF) (step : CS) (ρ : Env') : List D → D → Sto → Res D
  | [], c, L => .ok c L
  | d :: ds, c, L => match tg d ρ with
    | none => .bad
    | some ρ1 => match t ρ1 L with
      | .ok true L1 => (match step ρ1 c L1 with
        | .ok c' L2 => if srcOk L2 src then cGo src tg t step ρ ds c' L2 else .bad
        | _ => .bad)
      | .ok false L1 => if srcOk L1 src then cGo src tg t step ρ ds c L1 else .bad
      | _ => .bad
def stepL (f : EF) : CS := fun ρ c L => match c, f ρ L with
  | .lst acc, .ok y L2 => if acc.length < 16777216 then .ok (.lst (acc ++ [y])) L2 else .bad
  | _, _ => .bad
def stepD (fk fv : EF) : CS := fun ρ c L => match c, fk ρ L with
  | .dK kvs, .ok k L1 => (match dKey k, fv ρ L1 with
    | some key, .ok v L2 => if kvs.length < 16777216 then .ok (.dK (putD kvs key v)) L2 else .bad
    | _, _ => .bad)
  | _, _ => .bad
noncomputable def stepN (it : IF) (vs : List Nat) (tg : GF) (t : TF) (step : CS) : CS := fun ρ c L => match it ρ L with
  | .ok its L1 => cGo its.src tg t step (wipeE ρ vs) its.ds c L1
  | _ => .bad
def boxOut (box : Bool) (c : D) (L : Sto) : Res D := if box = true then .ok (.loc L.length) (L ++ [c]) else .ok c L
noncomputable def eComp (box : Bool) (own : List Nat) (init : D) (it : IF) (tg : GF) (t : TF) (step : CS) : EF := fun ρ L => match it ρ L with
  | .ok its L1 => (cGo its.src tg t step (wipeE ρ own) its.ds init L1).bind (boxOut box)
  | .err c p L1 => .err c p L1
  | .bad => .bad
abbrev TB := St → Hp → (Hp → Prop) → Prop
/-- the end of a turn does what step says -/
def StepOk (G : Gb) (Dd : Addr) (B : TB) (step : CS) : Prop := ∀ (w : Wd) (ρ : Env') (σ : St) (L : Sto) (H : Hp) (c : D) (o : HO) (c' : D) (L' : Sto) (Nx : Hp → Prop), Rel G w L H → EnvR G w σ ρ → w.prv Dd = some o → BoxD G w o c → step ρ c L = .ok c' L' →
  (∀ w' H' o', w.le0 w' → w'.prv = upd w.prv Dd o' → Rel G w' L' H' → BoxD G w' o' c' → Nx H') → B σ H Nx
def bStepL (te : TE) (Dd : Addr) : TB := fun σ H Nx => te σ H fun y H7 => ∃ acc, H7 Dd = some (.lst acc) ∧ acc.length < sizeLine ∧ Nx (upd H7 Dd (.lst (acc ++ [y])))
def bStepD (tk tv : TE) (Dd : Addr) : TB := fun σ H Nx => tk σ H fun y H4 => tv σ H4 fun z H5 => ∃ kvs k, y = kV k ∧ H5 Dd = some (.dK kvs) ∧ kvs.length < sizeLine ∧ Nx (upd H5 Dd (.dK (putK kvs k z)))
def tLvl (wi : TI) (g : TG) (tt : TT) (B : TB) (vs : List Nat) : TB := fun σ H Nx => wi σ H fun J1 H4 => ∃ W1 : Nat → Nat → Hp → Prop, (∃ m, W1 0 m H4) ∧ ∀ j k H, W1 j k H →
  (J1.stop j H ∧ Nx H) ∨ (J1.go j H ∧ ∃ Nx1 : Hp → Prop, (∀ H', Nx1 H' → ∃ k', k' < k ∧ W1 (j + 1) k' H') ∧ ∀ x H', J1.yld j H x H' → g x (wipe σ vs) H' fun σ3 H5 => wipe σ3 vs = wipe σ vs ∧ tt σ3 H5 fun b H6 =>
    if b = true then B σ3 H6 Nx1 else Nx1 H6)
section
variable {G : Gb} {Dd : Addr}
theorem stepL_ok {f : EF} : StepOk G Dd (bStepL (tR G (Den G) W0 f) Dd) (stepL f) := by
  intro w ρ σ L H c o c' L' Nx R e hp hb hs hN
  unfold stepL at hs
  split at hs
  · rename_i acc y L2 q
    split at hs
    · rename_i hz
      cases hs
      refine ⟨w, ρ, L, R, e, ?_⟩
      rw [q]
      intro w1 H1 v l1 R1 d1
      cases hb with
      | @lst vs ds r =>
        have hp1 : w1.prv Dd = some (.lst vs) := by rw [l1.same]; exact hp
        refine ⟨vs, (R1.prv _ _ hp1).1, by rw [r.length]; exact lineLt hz, hN ⟨w1.F, w1.φ, upd w1.prv Dd (.lst (vs ++ [v]))⟩ _ (.lst (vs ++ [v])) (l1.tole0.trans (Wd.prv_le _ _)) (by rw [l1.same]) (R1.putP hp1) (.lst (((r.le l1).snoc d1).le0 (Wd.prv_le _ _)))⟩
    · cases hs
  · cases hs
theorem stepD_ok {fk fv : EF} : StepOk G Dd (bStepD (tR G (Den G) W0 fk) (tR G (Den G) W0 fv) Dd) (stepD fk fv) := by
  intro w ρ σ L H c o c' L' Nx R e hp hb hs hN
  unfold stepD at hs
  split at hs
  · rename_i kds k L1 q
    split at hs
    · rename_i key v L2 hk q2
      split at hs
      · rename_i hz
        cases hs
        refine ⟨w, ρ, L, R, e, ?_⟩
        rw [q]
        intro w1 H1 u l1 R1 d1
        refine ⟨w1, ρ, L1, R1, e.le l1, ?_⟩
        rw [q2]
        intro w2 H2 z l2 R2 d2
        cases hb with
        | @dK vs ds r =>
          have hp2 : w2.prv Dd = some (.dK vs) := by rw [l2.same, l1.same]; exact hp
          have l12 := l1.trans l2
          refine ⟨vs, key, d1.key hk, (R2.prv _ _ hp2).1, by rw [r.length]; exact lineLt hz, hN ⟨w2.F, w2.φ, upd w2.prv Dd (.dK (putK vs key z))⟩ _ (.dK (putK vs key z)) (l12.tole0.trans (Wd.prv_le _ _)) (by rw [l12.same]) (R2.putP hp2) (.dK (((r.le l12).put d2).le0 (Wd.prv_le _ _)))⟩
      · cases hs
    · cases hs
  · cases hs
theorem loop_ok {B : TB} {step : CS} (hB : StepOk G Dd B step) {its : Its} {J : It} {w1 : Wd} {L1 : Sto} {H1 : Hp} {o : HO} {c c' : D} {L' : Sto} {σ : St} {ρ : Env'} {own : List Nat} {ft : GF} {t : TF} {Nx : Hp → Prop}
    (io : ItOk G w1 its.src J its.ds) (R1 : Rel G w1 L1 H1) (so : srcOk L1 its.src) (hp : w1.prv Dd = some o) (hb : BoxD G w1 o c) (ew : EnvR G w1 (wipe σ own) (wipeE ρ own)) (hgo : cGo its.src ft t step (wipeE ρ own) its.ds c L1 = .ok c' L')
    (hN : ∀ w' H' o', w1.le0 w' → w'.prv = upd w1.prv Dd o' → Rel G w' L' H' → BoxD G w' o' c' → Nx H') :
    ∃ W : Nat → Nat → Hp → Prop, (∃ m, W 0 m H1) ∧ ∀ i m H, W i m H → (J.stop i H ∧ Nx H) ∨ (J.go i H ∧ ∃ Nx1 : Hp → Prop, (∀ H', Nx1 H' → ∃ m', m' < m ∧ W (i + 1) m' H') ∧ ∀ x H', J.yld i H x H' →
      tG G own ft x (wipe σ own) H' fun σ2 H2 => wipe σ2 own = wipe σ own ∧ tR G eqR W0 t σ2 H2 fun b H3 => if b = true then B σ2 H3 Nx1 else Nx1 H3) := by
  refine ⟨fun i m H => ∃ (w2 : Wd) (L2 : Sto) (o2 : HO) (c2 : D), w1.le0 w2 ∧ w2.prv = upd w1.prv Dd o2 ∧ Rel G w2 L2 H ∧ srcOk L2 its.src ∧ BoxD G w2 o2 c2 ∧ i ≤ its.ds.length ∧ m = its.ds.length - i ∧ cGo its.src ft t step (wipeE ρ own) (its.ds.drop i) c2 L2 = .ok c' L', ?_, ?_⟩
  · refine ⟨its.ds.length, w1, L1, o, c, .refl _, ?_, R1, so, hb, Nat.zero_le _, by simp, hgo⟩
    funext a
    unfold upd
    split
    · rename_i h; rw [h]; exact hp
    · rfl
  · rintro i m H ⟨w2, L2, o2, c2, l2, pv2, R2, so2, hb2, hi, rfl, p2⟩
    obtain ⟨k1, k2⟩ := io w2 L2 H l2 R2 so2 i
    by_cases hlt : i < its.ds.length
    · have hd : its.ds[i]? = some its.ds[i] := List.getElem?_eq_getElem hlt
      obtain ⟨g1, g2⟩ := k1 _ hd
      rw [List.drop_eq_getElem_cons hlt] at p2
      refine .inr ⟨g1, fun H => ∃ (w2 : Wd) (L2 : Sto) (o2 : HO) (c2 : D), w1.le0 w2 ∧ w2.prv = upd w1.prv Dd o2 ∧ Rel G w2 L2 H ∧ srcOk L2 its.src ∧ BoxD G w2 o2 c2 ∧ cGo its.src ft t step (wipeE ρ own) (its.ds.drop (i + 1)) c2 L2 = .ok c' L',
        fun H' ⟨w2, L2, o2, c2, x1, x2, x3, x4, x5, x6⟩ => ⟨its.ds.length - (i + 1), by omega, w2, L2, o2, c2, x1, x2, x3, x4, x5, hlt, rfl, x6⟩, fun x H' y => ?_⟩
      obtain ⟨w3, l3, R3, d3⟩ := g2 x H' y
      unfold cGo at p2
      cases qt : ft its.ds[i] (wipeE ρ own) with
      | none => simp only [qt] at p2; cases p2
      | some ρ3 =>
        simp only [qt] at p2
        have l13 : w1.le0 w3 := l2.trans l3.tole0
        refine ⟨w3, wipeE ρ own, L2, _, ρ3, R3, ew.le0 l13, d3, qt, fun σ3 e3 hw => ⟨hw.trans wipe_idem, w3, ρ3, L2, R3, e3, ?_⟩⟩
        cases qq : t ρ3 L2 with
        | bad => simp only [qq] at p2; cases p2
        | err _ _ _ => simp only [qq] at p2; cases p2
        | ok b L3 =>
          intro w4 H4 b' l4 R4 hb'
          subst hb'
          have pv4 : w4.prv = upd w1.prv Dd o2 := by rw [l4.same, l3.same]; exact pv2
          cases b' with
          | false =>
            simp only [qq] at p2
            rw [if_neg (by decide)]
            split at p2
            · rename_i hso
              exact ⟨w4, L3, o2, c2, l13.trans l4.tole0, pv4, R4, hso, (hb2.le0 l3.tole0).le0 l4.tole0, p2⟩
            · cases p2
          | true =>
            simp only [qq] at p2
            rw [if_pos rfl]
            cases qs : step ρ3 c2 L3 with
            | bad => simp only [qs] at p2; cases p2
            | err _ _ _ => simp only [qs] at p2; cases p2
            | ok c3 L4 =>
              simp only [qs] at p2
              split at p2
              · rename_i hso
                refine hB w4 ρ3 σ3 L3 H4 c2 o2 c3 L4 _ R4 (e3.le l4) (by rw [pv4]; exact upd_same) ((hb2.le0 l3.tole0).le0 l4.tole0) qs fun w5 H5 o5 l5 pv5 R5 hb5 => ?_
                exact ⟨w5, L4, o5, c3, (l13.trans l4.tole0).trans l5, by rw [pv5, pv4, upd_upd], R5, hso, hb5, p2⟩
              · cases p2
    · have hd : i = its.ds.length := by omega
      rw [List.drop_eq_nil_of_le (by omega)] at p2
      unfold cGo at p2
      cases p2
      exact .inl ⟨k2 hd, hN w2 H o2 l2 pv2 R2 hb2⟩
/-- a clause within: its loop is a step -/
theorem lvl_ok {B : TB} {step : CS} (hB : StepOk G Dd B step) {fi : IF} {ft : GF} {t : TF} {own : List Nat} : StepOk G Dd (tLvl (tI G W0 fi) (tG G own ft) (tR G eqR W0 t) B own) (stepN fi own ft t step) := by
  intro w ρ σ L H c o c' L' Nx R e hp hb hs hN
  unfold stepN at hs
  refine ⟨w, ρ, L, R, e, ?_⟩
  cases q : fi ρ L with
  | bad => simp only [q] at hs; cases hs
  | err _ _ _ => simp only [q] at hs; cases hs
  | ok its L1 =>
    simp only [q] at hs
    intro w1 H1 J l1 R1 so io
    have hp1 : w1.prv Dd = some o := by rw [l1.same]; exact hp
    exact loop_ok hB io R1 so hp1 (hb.le l1) ((e.le l1).wipe own) hs fun w' H' o' l' pv' R' hb' => hN w' H' o' (l1.tole0.trans l') (by rw [pv', l1.same]) R' hb'
theorem ItOk.mono {w0 w : Wd} (l : w0.le0 w) {s : List (Nat × D)} {J : It} {ds : List D} (h : ItOk G w0 s J ds) : ItOk G w s J ds := fun w' L' H' l' R' so' i => h w' L' H' (l.trans l') R' so' i
/-- what is gathered is the value -/
theorem boxOut_end {w0 w : Wd} {L : Sto} {H : Hp} {o : HO} {c : D} {Q : VK} {E : XK} {box : Bool} (p : Post G (Den G) w0 (boxOut box c L) Q E) (R : Rel G w L H) (l : w0.le0 w) (hp : w.prv Dd = some o)
    (hq : ∀ a u, w0.prv a = some u → a ≠ Dd ∧ w.prv a = some u) (hb : BoxD G w o c) : Q (.ref Dd) H := by
  unfold boxOut at p
  cases box with
  | true =>
    rw [if_pos rfl] at p
    obtain ⟨Rz, lz⟩ := R.outB hp hb w0.prv hq
    refine p _ H (.ref Dd) ⟨l.trans lz, rfl⟩ Rz (.loc ?_)
    show (w.φ ++ [Dd])[L.length]? = some Dd
    rw [← R.len, List.getElem?_append_right (Nat.le_refl _)]
    simp
  | false =>
    rw [if_neg (by decide)] at p
    obtain ⟨Rz, lz⟩ := R.outP hp w0.prv hq
    refine p _ H (.ref Dd) ⟨l.trans lz, rfl⟩ Rz ?_
    have hb' := hb.le0 lz
    cases hb' with
    | lst r => exact .lst upd_same r
    | dK r => exact .dK upd_same r
    | dT r => exact .dT upd_same r
    | ins m r => exact .ins upd_same m r
end
section
variable {S : Sc} {W : WX} {a b e c tg iter elt tg1 iter1 kx vx : Expr} {es ifs ifs1 : List Expr} {fa fb f fk fv : EF} {pos : Pos}
/-- the outermost clause -/
theorem tTop_of {own : List Nat} {fi : IF} {ft : GF} {t : TF} {box : Bool} {init : D} {oi : HO} {step : CS} {B : Addr → TB} {σ : St} {H : Hp} {Q : VK} (hB : ∀ Dd, StepOk S.g Dd (B Dd) step) (hi : ∀ w, BoxD S.g w oi init)
    (q : tR S.g (Den S.g) W (eComp box own init fi ft t step) σ H Q) :
    tI S.g W fi σ H fun J H1 => ∀ D, H1 D = none → ∃ W1 : Nat → Nat → Hp → Prop, (∃ m, W1 0 m (upd H1 D oi)) ∧ ∀ i m H, W1 i m H →
      (J.stop i H ∧ Q (.ref D) H) ∨ (J.go i H ∧ ∃ Nx : Hp → Prop, (∀ H', Nx H' → ∃ m', m' < m ∧ W1 (i + 1) m' H') ∧ ∀ x H', J.yld i H x H' → tG S.g own ft x (wipe σ own) H' fun σ2 H2 => wipe σ2 own = wipe σ own ∧ tR S.g eqR W0 t σ2 H2 fun b H3 =>
        if b = true then B D σ2 H3 Nx else Nx H3) := by
  obtain ⟨w, ρ, L, R, e, p⟩ := q
  refine ⟨w, ρ, L, R, e, ?_⟩
  unfold eComp at p
  cases q : fi ρ L with
  | bad => rw [q] at p; exact p
  | err c x L1 => rw [q] at p; exact p
  | ok its L1 =>
    rw [q] at p
    dsimp only at p
    intro w1 H1 J l1 R1 so io Dd hD
    have ew := (e.le l1).wipe own
    have R2 := R1.newP (o := oi) hD
    have l2 : w1.le0 ⟨w1.F, w1.φ, upd w1.prv Dd oi⟩ := Wd.prv_le _ _
    cases qg : cGo its.src ft t step (wipeE ρ own) its.ds init L1 with
    | bad => rw [qg] at p; exact p.elim
    | err _ _ _ =>
      exfalso
      revert qg
      generalize init = c0
      generalize L1 = Lz
      intro qg
      have : ∀ (ds : List D) (c : D) (L : Sto) (x : Str) (pp : List (Str × D)) (L' : Sto), cGo its.src ft t step (wipeE ρ own) ds c L ≠ .err x pp L' := by
        intro ds
        induction ds with
        | nil => intro c L x pp L' h; unfold cGo at h; cases h
        | cons d ds ih =>
          intro c L x pp L' h
          unfold cGo at h
          split at h
          · cases h
          · split at h
            · split at h
              · split at h
                · exact ih _ _ _ _ _ h
                · cases h
              · cases h
            · split at h
              · exact ih _ _ _ _ _ h
              · cases h
            · cases h
      exact this _ _ _ _ _ _ qg
    | ok c' L' =>
      rw [qg] at p
      refine loop_ok (hB Dd) (io.mono l2) R2 so upd_same (hi _) (ew.le0 l2) qg fun w' H' o' l' pv' R' hb' => ?_
      have p1 := Post.le l1 p
      refine boxOut_end p1 R' (l2.trans l') (by rw [pv']; exact upd_same) (fun a u h => ?_) hb'
      have na : a ≠ Dd := fun z => by rw [z] at h; rw [(R1.prv _ _ h).1] at hD; cases hD
      exact ⟨na, by rw [pv', upd_ne na]; show upd w1.prv Dd oi a = some u; rw [upd_ne na]; exact h⟩
/-- {k: v for ..} -/
theorem se_dc {fi : IF} {ft : GF} {t : TF} (box : Bool) {scope : Scope} (own : List (Str × Nat)) (hN : S.N.Nodup) (hi : SI S W tg iter fi) (ok : blkC S.N S.sc scope own = true)
    (hg : SG (S.blk scope) W0 (own.map (·.2)) tg ft) (ht : STs (S.blk scope) W0 ifs t) (hk : SE (S.blk scope) W0 kx fk) (hv : SE (S.blk scope) W0 vx fv) (hs : ∀ env x, foldedSetIterable iter env x = pure x := by intro _ _; rfl) :
    SE S W (.DictComp kx vx [⟨tg, iter, ifs, 0⟩] scope pos) (eComp box (own.map (·.2)) (.dK []) fi ft t (stepD fk fv)) := fun X h =>
  PE.imp (pe_dc (own := own) h.calm (by rw [← h.N]; exact hN) (hi X h) (blkOk_by (by rw [← h.N, ← h.sc]; exact ok)) (fun s H C cl fp => hg _ (h.blk s H C cl fp)) (fun s H C cl fp => ht _ (h.blk s H C cl fp)) (fun s H C cl fp => hk _ (h.blk s H C cl fp)) (fun s H C cl fp => hv _ (h.blk s H C cl fp)) (hs _))
    fun σ H Q q => tTop_of (B := bStepD (tR S.g (Den S.g) W0 fk) (tR S.g (Den S.g) W0 fv)) (fun _ => stepD_ok) (fun _ => .dK .nil) q
/-- [.. for .. for ..] -/
theorem se_lc2 {fi fi1 : IF} {ft ft1 : GF} {t t1 : TF} (box : Bool) {scope : Scope} (own : List (Str × Nat)) (vs1 : List Nat) (hN : S.N.Nodup) (hi : SI S W tg iter fi) (ok : blkC S.N S.sc scope own = true) (hv : ∀ i ∈ vs1, i ∈ own.map (·.2))
    (hg : SG (S.blk scope) W0 (own.map (·.2)) tg ft) (ht : STs (S.blk scope) W0 ifs t) (hi1 : SI (S.blk scope) W0 tg1 iter1 fi1) (hg1 : SG (S.blk scope) W0 vs1 tg1 ft1) (ht1 : STs (S.blk scope) W0 ifs1 t1) (he : SE (S.blk scope) W0 elt f)
    (hs : ∀ env x, foldedSetIterable iter env x = pure x := by intro _ _; rfl) (hs1 : ∀ env x, foldedSetIterable iter1 env x = pure x := by intro _ _; rfl) :
    SE S W (.ListComp elt [⟨tg, iter, ifs, 0⟩, ⟨tg1, iter1, ifs1, 0⟩] scope pos) (eComp box (own.map (·.2)) (.lst []) fi ft t (stepN fi1 vs1 ft1 t1 (stepL f))) := fun X h =>
  PE.imp (pe_lc2 (own := own) h.calm (by rw [← h.N]; exact hN) (hi X h) (blkOk_by (by rw [← h.N, ← h.sc]; exact ok)) hv (fun s H C cl fp => hg _ (h.blk s H C cl fp)) (fun s H C cl fp => ht _ (h.blk s H C cl fp)) (fun s H C cl fp => hi1 _ (h.blk s H C cl fp))
    (fun s H C cl fp => hg1 _ (h.blk s H C cl fp)) (fun s H C cl fp => ht1 _ (h.blk s H C cl fp)) (fun s H C cl fp => he _ (h.blk s H C cl fp)) (hs _) hs1)
    fun σ H Q q => tTop_of (B := fun Dd => tLvl (tI S.g W0 fi1) (tG S.g vs1 ft1) (tR S.g eqR W0 t1) (bStepL (tR S.g (Den S.g) W0 f) Dd) vs1) (fun _ => lvl_ok stepL_ok) (fun _ => .lst .nil) q
end
end DS
set_option Elab.async false
set_option linter.all false
set_option maxRecDepth 100000
set_option maxHeartbeats 4000000
namespace DS
open PySem PySem.Spec L2
open PyProof.Rows hiding St

/-! ### comprehensions with any clauses -/
/-- the turn of clause k -/
abbrev ClzTurn (comp : Expr) (k : Nat) (ipos : Pos) (tg : Expr) (ifs : List Expr) (body : Value → Env → Sem Fin → Sem Fin) : Prop := ∀ (it acc : Value) (env : Env), compTurn comp k it acc env = (do
  standAt ipos
  match ← pyNext it with
  | none => pure (.done .next)
  | some v =>
    letOwnedTupleGo tg it v
    assign tg env v
    let mut ok := true
    for c in ifs do
      if ok then ok ← isTrue c env (eval c env)
    if ok then
      body acc env (again (.compLoop comp k it acc env))
    else again (.compLoop comp k it acc env))
structure CompDen (comp : Expr) : Prop where
  loop : ∀ (prog : Program) (w : World) (k : Nat) (it acc : Value) (env : Env), (model prog w).den (.compLoop comp k it acc env) = (compTurn comp k it acc env).onRaise (fun x => do noteFrame x env; theTreesLotGoes x)
  start : ∀ (prog : Program) (w : World) (k : Nat) (it acc : Value) (env : Env), (model prog w).den (.compStart comp k it acc env) = (compStart comp k it acc env).onRaise (fun x => do noteFrame x env; standAt theWindowsPlace)
  loopA : ∀ (A : Around) (k : Nat) (it acc : Value) (env : Env), A.under (.compLoop comp k it acc env) = A
  startA : ∀ (A : Around) (k : Nat) (it acc : Value) (env : Env), A.under (.compStart comp k it acc env) = A
/-- what a clause does within: the next one's loop -/
def inBody (comp : Expr) (k : Nat) (iter : Expr) : Value → Env → Sem Fin → Sem Fin := fun acc env cont => do
  let x ← eval iter env
  standAt iter.pos
  let x ← foldedSetIterable iter env x
  let _ ← runOwn (.compStart comp k (← holding [x] (pyIter x)) acc env) env
  cont
section
variable {prog : Program} {w : World} {A : Around} {R : Result → Shared → Prop} {s : Shared} {comp tg : Expr} {k : Nat} {ipos : Pos} {ifs : List Expr} {body : Value → Env → Sem Fin → Sem Fin} {it acc : Value} {env : Env}
theorem compLoopG (M : CompDen comp) (C : ClzTurn comp k ipos tg ifs body) (I : Nat → Shared → Prop)
    (turn : ∀ n s, I n s → wpAny (model prog w) A (pyNext it) (fun r s₁ => match r with
      | none => R (.ok .next) s₁
      | some v => wpAny (model prog w) A (letOwnedTupleGo tg it v) (fun _ s₁' => wpAny (model prog w) A (assign tg env v) (fun _ s₂ =>
          wpAny (model prog w) A (forIn ifs true fun c r => if r = true then do let ok ← isTrue c env (eval c env); pure (ForInStep.yield ok) else pure (ForInStep.yield r)) (fun ok s₃ =>
            if ok = true then wpAny (model prog w) A (body acc env (again (.compLoop comp k it acc env))) (fun fin s₄ => fin = .again (.compLoop comp k it acc env) ∧ ∃ m, m < n ∧ I m s₄) (notedBy (model prog w) A env fun e s' => R (.error e) s') s₃
            else ∃ m, m < n ∧ I m s₃) (notedBy (model prog w) A env fun e s' => R (.error e) s') s₂) (notedBy (model prog w) A env fun e s' => R (.error e) s') s₁') (notedBy (model prog w) A env fun e s' => R (.error e) s') s₁) (notedBy (model prog w) A env fun e s' => R (.error e) s') s)
    (n : Nat) (h : I n s) : codeAny (model prog w) A (.compLoop comp k it acc env) R s := by
  refine codeAny_loop rfl I (fun n s hI => ?_) n h
  rw [M.loop, M.loopA]
  refine wpAny_noted ?_
  rw [C]
  refine wpAny_bind (wpAny_standAt (wpAny_bind (wpAny_mono (turn n s hI) (fun r s₁ h₁ => ?_) fun _ _ h' => h')))
  cases r with
  | none => exact wpAny_pure h₁
  | some v =>
    refine wpAny_bind (wpAny_mono h₁ (fun _ s₁' h₁' => ?_) fun _ _ h' => h')
    refine wpAny_bind (wpAny_mono h₁' (fun _ s₂ h₂ => wpAny_bind (wpAny_mono h₂ (fun ok s₃ h₃ => ?_) fun _ _ h' => h')) fun _ _ h' => h')
    cases ok with
    | false => exact wpAny_pure ⟨rfl, h₃⟩
    | true =>
      refine wpAny_mono h₃ (fun fin s₄ h₄ => ?_) fun _ _ h' => h'
      obtain ⟨e, h4⟩ := h₄
      subst e
      exact ⟨rfl, h4⟩
theorem compStartG (M : CompDen comp) {t0 i0 : Expr} {ifs0 : List Expr} (hk : (clausesOf comp)[k]? = some ⟨t0, i0, ifs0, 0⟩) (h0 : codeAny (model prog w) A (.compLoop comp k it acc env) R s)
    (h : wpAny (model prog w) A (pyIter it) (fun it' s' => codeAny (model prog w) A (.compLoop comp k it' acc env) R s') (notedBy (model prog w) A env fun x s' => R (.error x) s') s) :
    codeAny (model prog w) A (.compStart comp k it acc env) R s := by
  refine codeAny_of_tree ?_
  rw [M.start, M.startA]
  refine wpAny_notedAt ?_
  unfold compStart
  rw [hk]
  show wpAny _ _ (ask >>= _) _ _ s
  refine wpAny_bind (wpAny_askSetting (wpAny_ite ?_))
  split
  · first
      | exact wpAny_bind (wpAny_pure (wpAny_pure (And.intro rfl h0)))
      | exact wpAny_pure (And.intro rfl h0)
  · first
      | exact wpAny_bind (wpAny_rule (wpAny_bind (wpAny_standAt (wpAny_bind (wpAny_mono h (fun it' s' h' => wpAny_pure (And.intro rfl h')) fun _ _ x => x)))))
      | (refine wpAny_bind (wpAny_rule ?_); show wpAny _ _ (standAt i0.pos >>= _) _ _ s; exact wpAny_bind (wpAny_standAt (wpAny_bind (wpAny_mono h (fun it' s' h' => wpAny_pure (And.intro rfl h')) fun _ _ x => x))))
end
/-- a turn's end in a block: vs: the slots that it may forget -/
def Body (X : Cx) (vs : List Nat) (B : TB) (m : Sem Fin → Sem Fin) : Prop := ∀ (pins : List (Addr × Obj)) (s : Shared) (σ : St) (H : Hp) (Nx : Hp → Prop) (cont : Sem Fin) (Qf : Fin → Shared → Prop) (E : Value → Shared → Prop), Inv X pins σ H s → B σ H Nx →
  (∀ s' H', Inv X pins (wipe σ vs) H' s' → Nx H' → wpAny (model X.prog X.w) X.A cont Qf E s') → wpAny (model X.prog X.w) X.A (m cont) Qf E s
theorem weak_wipe {X : Cx} {pins : List (Addr × Obj)} {σ : St} {H : Hp} {s : Shared} (vs : List Nat) (I : Inv X pins σ H s) : Inv X pins (wipe σ vs) H s := I.weak (wipe_length _ _) fun j v e => (wipe_some e).1
section
variable {X : Cx} {te tk tv : TE} {elt kx vx : Expr}
def bodyL (elt : Expr) : Value → Env → Sem Fin → Sem Fin := fun acc env cont => do
  (do let _ ← call (.builtin "list.append") [acc, ← eval elt env])
  cont
def bodyD (kx vx : Expr) : Value → Env → Sem Fin → Sem Fin := fun acc env cont => do
  (do
    let kv ← eval kx env
    let vv ← holding [kv] (eval vx env)
    match acc with
    | .ref d => do
      standAt { kx.pos with endLine := vx.pos.endLine, endCol := vx.pos.endCol }
      holding [kv, vv] (dictSet d kv vv)
    | _ => unsupported "internal:dictcomp")
  cont
theorem body_list (hx : X.xe = fun _ _ => False) (he : PE X elt te) (D : Addr) : Body X [] (bStepL te D) (bodyL elt (.ref D) X.env) := fun pins s σ H Nx cont Qf E I h hc => by
  have r := he.run pins s σ H _ I h
  rw [hx] at r
  refine wpAny_bind (wpAny_bind (thnF r fun v s1 ⟨y, H1, I1, ry, acc, hD, hz, nx⟩ => ?_))
  exact wpAny_bind (app_ok I1 hD hz ry fun s2 I2 => wpAny_pure (hc _ _ I2 nx))
theorem body_dict (hx : X.xe = fun _ _ => False) (hk : PE X kx tk) (hv : PE X vx tv) (D : Addr) : Body X [] (bStepD tk tv D) (bodyD kx vx (.ref D) X.env) := fun pins s σ H Nx cont Qf E I h hc => by
  have r := hk.run pins s σ H _ I h
  rw [hx] at r
  refine wpAny_bind (wpAny_bind (thnF r fun v s1 ⟨y, H1, I1, ry, h1⟩ => ?_))
  have r2 := hv.run pins s1 σ H1 _ I1 h1
  rw [hx] at r2
  refine wpAny_bind (wpAny_holding (thnF r2 fun u s2 ⟨z, H2, I2, rz, kvs, k, ek, hD, hz, nx⟩ => ?_))
  subst ek
  exact wpAny_bind (wpAny_standAt (wpAny_holding (d_dictSet I2 hD hz ry rz fun s3 I3 => hc _ _ I3 nx)))
/-- one loop within a block -/
theorem loop_body {comp tg iter : Expr} {k : Nat} {ipos : Pos} {ifs : List Expr} {body : Value → Env → Sem Fin → Sem Fin} {D : Addr} {wi : TI} {g : TG} {tt : TT} {B : TB} {vs vd : List Nat} (hx : X.xe = fun _ _ => False) (hc : X.calm = true) (M : CompDen comp) (C : ClzTurn comp k ipos tg ifs body) (hk : (clausesOf comp)[k]? = some ⟨tg, iter, ifs, 0⟩)
    (hi : PI X tg iter wi) (hg : PG X tg g) (ht : PTs X ifs tt) (hB : Body X vd B (body (.ref D) X.env)) (hd : ∀ i ∈ vd, i ∈ vs) (hs : ∀ x, foldedSetIterable iter X.env x = pure x) :
    Body X vs (tLvl wi g tt B vs) (inBody comp k iter (.ref D) X.env) := fun pins s σ H Nx cont Qf E I h hcont => by
  have r := hi.run pins s σ H _ I h
  rw [hx] at r
  refine wpAny_bind (thnF r fun xv s1 hx1 => ?_)
  refine wpAny_bind (wpAny_standAt (wpAny_bind (wpAny_of_eq (hs xv) ?_)))
  refine wpAny_bind (wpAny_holding (thnF hx1 fun itv s2 h2 => ?_))
  obtain ⟨it, fp, tn, J, H2, e, I2, T, st2, f2, W, ⟨m0, w0⟩, turn⟩ := h2
  subst e
  have stat : ∀ {H' : Hp}, (∀ b ∈ fp, H' b = none) → ∀ b ∈ fp, FpOk X pins H' b := fun hn b hb => ⟨hn b hb, (f2 b hb).2⟩
  have loop : codeAny (model X.prog X.w) X.A (.compLoop comp k (.ref it) (.ref D) X.env) (fun r s' => match r with
      | .ok _ => ∃ H', Inv X pins (wipe σ vs) H' s' ∧ Nx H'
      | .error _ => False) s2 := by
    refine compLoopG M C (fun n s' => ∃ i H', Inv X pins (wipe σ vs) H' s' ∧ tn i s'.heap ∧ (∀ b ∈ fp, H' b = none) ∧ W i n H') ?_ m0 ⟨0, H2, weak_wipe vs I2, st2, fun b hb => (f2 b hb).1, w0⟩
    rintro n s5 ⟨i, H5, I5, st5, n5, w5⟩
    rcases turn i n H5 w5 with ⟨stop, nx⟩ | ⟨go, Nx1, hNx, step⟩
    · refine thnF (T.done X rfl rfl rfl hc i _ s5 (wipe σ vs) H5 (fun _ _ => False) I5 (stat n5) st5 stop) fun r s6 ⟨hr, I6⟩ => ?_
      subst hr
      exact ⟨H5, I6, nx⟩
    · refine thnF (T.item X rfl rfl rfl hc i _ s5 (wipe σ vs) H5 (fun _ _ => False) I5 (stat n5) st5 go) fun r s6 ⟨u, hr, h6⟩ => ?_
      subst hr
      refine thnF h6 fun _ s7 ⟨x, H7, I7, r7, y7, st7, n7⟩ => ?_
      have I7' := I7.pinned (stat n7) (T.obj _ _ st7)
      have rg := hg.run _ s7 (wipe σ vs) H7 x u _ I7' r7 (step x H7 y7)
      rw [hx] at rg
      refine thnF rg fun _ s8 ⟨σ8, H8, I8, hw8, q8⟩ => ?_
      have rt := ht.run _ s8 σ8 H8 _ I8 q8
      rw [hx] at rt
      refine thnF rt fun b s9 ⟨H9, I9, q9⟩ => ?_
      have hw9 : wipe σ8 vs = wipe σ vs := hw8
      have fin : ∀ {σ9 : St} {s' : Shared} {H' : Hp}, Inv X (pins ++ pinsAt fp s7.heap) σ9 H' s' → (wipe σ vs).length = σ9.length → (∀ (j : Nat) v, (wipe σ vs)[j]? = some (some v) → σ9[j]? = some (some v)) → Nx1 H' →
          ∃ m, m < n ∧ ∃ i H', Inv X pins (wipe σ vs) H' s' ∧ tn i s'.heap ∧ (∀ b ∈ fp, H' b = none) ∧ W i m H' := fun {σ9 s' H'} I' hl hk nx => by
        obtain ⟨m', hm, w'⟩ := hNx H' nx
        have pin' : ∀ b ∈ fp, ∀ o, s7.heap.get? b = some o → s'.heap.get? b = some o ∧ H' b = none := fun b hb o e =>
          let z := I'.pin (b, o) (List.mem_append_right _ (List.mem_append_right _ (mem_pinsAt hb e)))
          ⟨z.1, z.2.1⟩
        refine ⟨m', hm, i + 1, H', I'.unpinned.weak hl hk, T.keep _ _ _ st7 fun b hb o e => (pin' b hb o e).1, fun b hb => ?_, w'⟩
        obtain ⟨o, e, _⟩ := T.obj _ _ st7 b hb
        exact (pin' b hb o e).2
      have hl8 : (wipe σ vs).length = σ8.length := by rw [← hw9, wipe_length]
      cases b with
      | false =>
        simp only [Bool.false_eq_true, if_false] at q9 ⊢
        exact fin I9 hl8 (fun j v e => by rw [← hw9] at e; exact (wipe_some e).1) q9
      | true =>
        simp only [if_true] at q9 ⊢
        refine hB _ s9 σ8 H9 _ _ _ _ I9 q9 fun s10 H10 I10 nx => ?_
        refine wpAny_pure ⟨rfl, ?_⟩
        refine fin I10 (by rw [wipe_length σ8 vd]; exact hl8) (fun j v e => ?_) nx
        rw [← hw9] at e
        obtain ⟨e1, e2⟩ := wipe_some e
        rw [wipe_out fun z => e2 (hd j z)]
        exact e1
  have start : codeAny (model X.prog X.w) X.A (.compStart comp k (.ref it) (.ref D) X.env) (fun r s' => match r with
      | .ok _ => ∃ H', Inv X pins (wipe σ vs) H' s' ∧ Nx H'
      | .error _ => False) s2 := compStartG M hk loop (T.self X.A 0 _ _ _ st2 loop)
  refine wpAny_bind (wpAny_runOwn ?_)
  rw [Around.mark_none]
  refine codeAny_mono start fun r s' hr => ?_
  cases r with
  | ok f =>
    obtain ⟨H', I', nx⟩ := hr
    first
      | exact wpAny_pure (hcont _ _ I' nx)
      | exact wpAny_bind (wpAny_pure (hcont _ _ I' nx))
      | exact hcont _ _ I' nx
  | error e => exact hr.elim
end
/-- the outermost loop, the new object at D -/
def tTop (wi : TI) (g : TG) (tt : TT) (B : Addr → TB) (o0 : HO) (vs : List Nat) : TE := fun σ H Q => wi σ H fun J H1 => ∀ D, H1 D = none → ∃ W : Nat → Nat → Hp → Prop, (∃ m, W 0 m (upd H1 D o0)) ∧ ∀ i m H, W i m H →
  (J.stop i H ∧ Q (.ref D) H) ∨ (J.go i H ∧ ∃ Nx : Hp → Prop, (∀ H', Nx H' → ∃ m', m' < m ∧ W (i + 1) m' H') ∧ ∀ x H', J.yld i H x H' → g x (wipe σ vs) H' fun σ2 H2 => wipe σ2 vs = wipe σ vs ∧ tt σ2 H2 fun b H3 =>
    if b = true then B D σ2 H3 Nx else Nx H3)
theorem comp_core {X : Cx} {pins : List (Addr × Obj)} {s : Shared} {σ : St} {H : Hp} {Q : VK} {comp tg iter : Expr} {ipos : Pos} {ifs : List Expr} {gs : List Comprehension} {body : Value → Env → Sem Fin → Sem Fin} {scope : Scope} {own : List (Str × Nat)} {vd : List Nat} {pos' : Pos} {wi : TI} {g : TG} {tt : TT} {B : Addr → TB} {use : Option (Value → Sem Unit)} {Qf : Value → Shared → Prop}
    {newAcc : Sem Value} {o0 : HO} {ob0 : Obj} (M : CompDen comp) (C : ClzTurn comp 0 ipos tg ifs body)
    (hcl : clausesOf comp = ⟨tg, iter, ifs, 0⟩ :: gs) (hacc : ∀ (A : Around) (E : Value → Shared → Prop) (s : Shared) (Q : Value → Shared → Prop), Q (.ref s.heap.objs.size) { s with heap := s.heap.push ob0 } → wpAny (model X.prog X.w) A newAcc Q E s)
    (hob : ∀ (H : Hp) (s : Shared), Inv X pins σ H s → ObjOk X.prog X.w (upd H s.heap.objs.size o0) (s.heap.push ob0) s.heap.objs.size o0)
    (hc : X.calm = true) (hN : X.N.Nodup) (I : Inv X pins σ H s) (hi : PI X tg iter wi) (ok : BlkOk X.N X.env.scope scope own) (hvd : ∀ i ∈ vd, i ∈ own.map (·.2))
    (hg : ∀ (s : Shared) (H : Hp) (C : Addr) (cl : List (Str × Addr)) (fp : List Addr), PG (X.blk s H scope (compEnvC scope cl C X.env) fp) tg g) (ht : ∀ (s : Shared) (H : Hp) (C : Addr) (cl : List (Str × Addr)) (fp : List Addr), PTs (X.blk s H scope (compEnvC scope cl C X.env) fp) ifs tt)
    (hB : ∀ (D : Addr) (s : Shared) (H : Hp) (C : Addr) (cl : List (Str × Addr)) (fp : List Addr), Body (X.blk s H scope (compEnvC scope cl C X.env) fp) vd (B D) (body (.ref D) (compEnvC scope cl C X.env)))
    (hs : ∀ x, foldedSetIterable iter X.env x = pure x)
    (h : tTop wi g tt B o0 (own.map (·.2)) σ H Q)
    (hRR : ∀ D C s' m H', Inv X pins σ H' s' → Q (.ref D) H' → s'.heap.Ns C m → FpOk X pins H' C → compPost (model X.prog X.w) X.A X.xe use Qf (.ref D) C (.ok .next) s') :
    wpAny (model X.prog X.w) X.A (comprehension comp scope X.env pos' newAcc false (eval iter X.env) use) Qf X.xe s := by
  have hfree : ∀ y ∈ scope.names, y.2 = .free → ∃ c, X.env.cells.lookup y.1 = some c := fun y hy e => by
    rcases ok.free y hy e with k | k
    · exact I.ok.has _ (.inl k)
    · exact I.ok.has _ (.inr k)
  refine wpAny_comprehension_free (use := use) hcl hs (closure_ok hfree) ok.kind (fun y hy e => by rw [ok.uniq y hy, e])
    (thn (hi.run pins s σ H _ I h) fun xv s1 hx => thn hx fun itv s2 h2 => ?_)
  obtain ⟨it, fp, tn, J, H2, e, I2, T, st2, f2, q⟩ := h2
  subst e
  refine hacc _ _ _ _ (newEnv_comp ?_)
  have hob2 := hob H2 s2 I2
  generalize hD : s2.heap.objs.size = D at hob2
  have hDn : H2 D = none := I2.hok.fresh (Nat.le_of_eq hD)
  obtain ⟨W, ⟨m0, w0⟩, turn⟩ := q D hDn
  generalize hs3 : ({ s2 with heap := s2.heap.push ob0 } : Shared) = s3
  have I3 : Inv X pins σ (upd H2 D o0) s3 := by
    rw [← hs3]
    exact I2.laid (t' := s2.toks) (fun b o e => Heap.get?_push_of_some _ e) (Nat.le_of_eq hD) hob2
  have h3 : s3.heap = s2.heap.push ob0 := by rw [← hs3]
  have sz : ∀ b ∈ fp, b < s2.heap.objs.size := fun b hb => by
    obtain ⟨o, e, _⟩ := T.obj _ _ st2 b hb
    exact Heap.lt_size e
  have f3 : ∀ b ∈ fp, FpOk X pins (upd H2 D o0) b ∧ b < s3.heap.objs.size := fun b hb => by
    have hlt := sz b hb
    refine ⟨⟨?_, (f2 b hb).2⟩, by rw [h3, Heap.size_push]; exact Nat.lt_succ_of_lt hlt⟩
    rw [upd_ne (by rw [← hD]; exact Nat.ne_of_lt hlt)]
    exact (f2 b hb).1
  have st3 : tn 0 s3.heap := T.keep _ _ _ st2 fun b _ o e => by rw [h3]; exact Heap.get?_push_of_some _ e
  have I4 := block_start I3 ok hN f3
  have pg := hg s3 (upd H2 D o0) s3.heap.objs.size (cellsFrom (s3.heap.objs.size + 1) scope.names (cloFrom X.env.cells scope.names [])) fp
  have pt := ht s3 (upd H2 D o0) s3.heap.objs.size (cellsFrom (s3.heap.objs.size + 1) scope.names (cloFrom X.env.cells scope.names [])) fp
  have pb := hB D s3 (upd H2 D o0) s3.heap.objs.size (cellsFrom (s3.heap.objs.size + 1) scope.names (cloFrom X.env.cells scope.names [])) fp
  show codeAny _ _ (.compStart comp 0 (.ref it) (.ref D) (compEnvC scope (cellsFrom (s3.heap.objs.size + 1) scope.names (cloFrom X.env.cells scope.names [])) s3.heap.objs.size X.env)) (compPost (model X.prog X.w) X.A X.xe use Qf (.ref D) s3.heap.objs.size) { s3 with heap := pushCells (s3.heap.push { cls := .type "dict", data := .dict #[] }) scope.names }
  have nfp : ∀ b ∈ fp, (upd H2 D o0) b = none := fun b hb => (f3 b hb).1.1
  generalize hce : compEnvC scope (cellsFrom (s3.heap.objs.size + 1) scope.names (cloFrom X.env.cells scope.names [])) s3.heap.objs.size X.env = ce at I4 pg pt pb ⊢
  have cL : ce.locals = s3.heap.objs.size := by subst hce; rfl
  generalize hH3 : upd H2 D o0 = H3 at I3 I4 pg pt pb w0 nfp f3
  generalize hs4 : ({ s3 with heap := pushCells (s3.heap.push { cls := .type "dict", data := .dict #[] }) scope.names } : Shared) = s4 at I4 ⊢
  have st4 : tn 0 s4.heap := T.keep _ _ _ st3 fun b _ o e => by rw [← hs4]; exact pushCells_keeps _ _ _ _ (Heap.get?_push_of_some _ e)
  have stat : ∀ {σ' : St} {H' : Hp} {s' : Shared}, Inv (X.blk s3 H3 scope ce fp) [] σ' H' s' → (∀ b ∈ fp, H' b = none) → ∀ b ∈ fp, FpOk (X.blk s3 H3 scope ce fp) [] H' b := fun {σ' H' s'} I' hn b hb =>
    ⟨hn b hb, (I'.ok.exf b hb).1, I'.ok.exfs b hb, .inl hb, fun x c e => (I'.ok.exf b hb).2 x c e, fun p hp => absurd (show p ∈ ([] : List (Addr × Obj)) ++ [] from hp) (by simp)⟩
  have loop : codeAny (model X.prog X.w) X.A (.compLoop comp 0 (.ref it) (.ref D) ce) (compPost (model X.prog X.w) X.A X.xe use Qf (.ref D) s3.heap.objs.size) s4 := by
    refine compLoopG M C (fun n s' => ∃ i H', Inv (X.blk s3 H3 scope ce fp) [] (wipe σ (own.map (·.2))) H' s' ∧ tn i s'.heap ∧ (∀ b ∈ fp, H' b = none) ∧ W i n H') ?_ m0 ⟨0, H3, I4, st4, nfp, w0⟩
    rintro n s5 ⟨i, H5, I5, st5, n5, w5⟩
    rcases turn i n H5 w5 with ⟨stop, qq⟩ | ⟨go, Nx, hNx, step⟩
    · have td := T.done (X.blk s3 H3 scope ce fp) rfl rfl rfl hc i [] s5 _ H5 (fun _ _ => False) I5 (stat I5 n5) st5 stop
      refine thnF td fun r s6 ⟨hr, I6⟩ => ?_
      subst hr
      have I7 : Inv X pins σ H5 s6 := I3.call' (ch := fp) I6.os I6.base I6.hok I6.bare fun b hb => ⟨(f3 b hb).1.2.2.2.1, (f3 b hb).1.2.1, (f3 b hb).1.2.2.2.2.1, (f3 b hb).1.2.2.2.2.2⟩
      have nC : H5 s3.heap.objs.size = none := by
        have z : H5 ce.locals = none := I6.free
        rw [cL] at z
        exact z
      obtain ⟨m, hn, _⟩ := I6.loc
      have hn : s6.heap.Ns ce.locals m := hn
      rw [cL] at hn
      exact hRR D s3.heap.objs.size s6 m H5 I7 qq hn (I3.fpOk (Nat.le_refl _) nC)
    · have ti := T.item (X.blk s3 H3 scope ce fp) rfl rfl rfl hc i [] s5 _ H5 (fun _ _ => False) I5 (stat I5 n5) st5 go
      refine thnF ti fun r s6 ⟨u, hr, h6⟩ => ?_
      subst hr
      refine thnF h6 fun _ s7 ⟨x, H7, I7, r7, y7, st7, n7⟩ => ?_
      have I7' := I7.pinned (stat I7 n7) (T.obj _ _ st7)
      refine thnF (pg.run _ s7 _ H7 x u _ I7' r7 (step x H7 y7)) fun _ s8 ⟨σ8, H8, I8, hw8, q8⟩ => ?_
      refine thnF (pt.run _ s8 σ8 H8 _ I8 q8) fun b s9 ⟨H9, I9, q9⟩ => ?_
      have fin : ∀ {σ9 : St} {s' : Shared} {H' : Hp}, Inv (X.blk s3 H3 scope ce fp) ([] ++ pinsAt fp s7.heap) σ9 H' s' → (wipe σ (own.map (·.2))).length = σ9.length → (∀ (j : Nat) v, (wipe σ (own.map (·.2)))[j]? = some (some v) → σ9[j]? = some (some v)) → Nx H' →
          ∃ m, m < n ∧ ∃ i H', Inv (X.blk s3 H3 scope ce fp) [] (wipe σ (own.map (·.2))) H' s' ∧ tn i s'.heap ∧ (∀ b ∈ fp, H' b = none) ∧ W i m H' := fun {σ9 s' H'} I' hl hk nx => by
        obtain ⟨m', hm, w'⟩ := hNx H' nx
        have pin' : ∀ b ∈ fp, ∀ o, s7.heap.get? b = some o → s'.heap.get? b = some o ∧ H' b = none := fun b hb o e =>
          let z := I'.pin (b, o) (List.mem_append_right _ (List.mem_append_right _ (mem_pinsAt hb e)))
          ⟨z.1, z.2.1⟩
        refine ⟨m', hm, i + 1, H', (I'.unpinned (pins := [])).weak hl hk, T.keep _ _ _ st7 fun b hb o e => (pin' b hb o e).1, fun b hb => ?_, w'⟩
        obtain ⟨o, e, _⟩ := T.obj _ _ st7 b hb
        exact (pin' b hb o e).2
      have hl8 : (wipe σ (own.map (·.2))).length = σ8.length := by rw [← hw8, wipe_length]
      cases b with
      | false =>
        simp only [Bool.false_eq_true, if_false] at q9 ⊢
        exact fin I9 hl8 (fun j v e => by rw [← hw8] at e; exact (wipe_some e).1) q9
      | true =>
        simp only [if_true] at q9 ⊢
        refine pb _ s9 σ8 H9 _ _ _ _ I9 q9 fun s10 H10 I10 nx => ?_
        refine wpAny_pure ⟨rfl, ?_⟩
        refine fin I10 (by rw [wipe_length σ8 vd]; exact hl8) (fun j v e => ?_) nx
        rw [← hw8] at e
        obtain ⟨e1, e2⟩ := wipe_some e
        rw [wipe_out fun z => e2 (hvd j z)]
        exact e1
  exact compStartG M (t0 := tg) (i0 := iter) (ifs0 := ifs) (by rw [hcl]; rfl) loop (T.self X.A 0 _ _ _ st4 loop)
theorem compDen_list {elt : Expr} {gs : List Comprehension} {scope : Scope} {pos : Pos} : CompDen (.ListComp elt gs scope pos) := ⟨fun _ _ _ _ _ _ => rfl, fun _ _ _ _ _ _ => rfl, fun _ _ _ _ _ => rfl, fun _ _ _ _ _ => rfl⟩
theorem compDen_dict {kx vx : Expr} {gs : List Comprehension} {scope : Scope} {pos : Pos} : CompDen (.DictComp kx vx gs scope pos) := ⟨fun _ _ _ _ _ _ => rfl, fun _ _ _ _ _ _ => rfl, fun _ _ _ _ _ => rfl, fun _ _ _ _ _ => rfl⟩
section
variable {S : Sc} {W : WX} {kx vx elt tg iter tg1 iter1 tg2 iter2 : Expr} {ifs ifs1 ifs2 : List Expr} {f fk fv : EF} {pos : Pos}
/-- {k: v for .. for ..} -/
theorem se_dc2 {fi fi1 : IF} {ft ft1 : GF} {t t1 : TF} (box : Bool) {scope : Scope} (own : List (Str × Nat)) (vs1 : List Nat) (hN : S.N.Nodup) (hi : SI S W tg iter fi) (ok : blkC S.N S.sc scope own = true) (hv : ∀ i ∈ vs1, i ∈ own.map (·.2))
    (hg : SG (S.blk scope) W0 (own.map (·.2)) tg ft) (ht : STs (S.blk scope) W0 ifs t) (hi1 : SI (S.blk scope) W0 tg1 iter1 fi1) (hg1 : SG (S.blk scope) W0 vs1 tg1 ft1) (ht1 : STs (S.blk scope) W0 ifs1 t1) (hk : SE (S.blk scope) W0 kx fk) (hx : SE (S.blk scope) W0 vx fv)
    (hs : ∀ env x, foldedSetIterable iter env x = pure x := by intro _ _; rfl) (hs1 : ∀ env x, foldedSetIterable iter1 env x = pure x := by intro _ _; rfl) :
    SE S W (.DictComp kx vx [⟨tg, iter, ifs, 0⟩, ⟨tg1, iter1, ifs1, 0⟩] scope pos) (eComp box (own.map (·.2)) (.dK []) fi ft t (stepN fi1 vs1 ft1 t1 (stepD fk fv))) := fun X h => by
  refine ⟨fun pins s σ H Q I q => ?_⟩
  rw [arm_eval_DictComp]
  have C0 : ClzTurn (.DictComp kx vx [⟨tg, iter, ifs, 0⟩, ⟨tg1, iter1, ifs1, 0⟩] scope pos) 0 iter.pos tg ifs (inBody (.DictComp kx vx [⟨tg, iter, ifs, 0⟩, ⟨tg1, iter1, ifs1, 0⟩] scope pos) 1 iter1) := fun _ _ _ => by rfl
  have C1 : ClzTurn (.DictComp kx vx [⟨tg, iter, ifs, 0⟩, ⟨tg1, iter1, ifs1, 0⟩] scope pos) 1 iter1.pos tg1 ifs1 (bodyD kx vx) := fun _ _ _ => by rfl
  have q2 := tTop_of (B := fun Dd => tLvl (tI S.g W0 fi1) (tG S.g vs1 ft1) (tR S.g eqR W0 t1) (bStepD (tR S.g (Den S.g) W0 fk) (tR S.g (Den S.g) W0 fv) Dd) vs1) (fun _ => lvl_ok stepD_ok) (fun _ => .dK .nil) q
  refine comp_core (vd := vs1) (own := own) (o0 := .dK []) (ob0 := { cls := .type "dict", data := .dict #[] }) (use := none) compDen_dict C0 rfl (fun A E s Q q => wpAny_newObj_type q) (fun H s I => dk_empty s.heap I.big) h.calm (by rw [← h.N]; exact hN) I (hi X h) (blkOk_by (by rw [← h.N, ← h.sc]; exact ok)) hv
    (fun s H C cl fp => hg _ (h.blk s H C cl fp)) (fun s H C cl fp => ht _ (h.blk s H C cl fp)) (fun D s H C cl fp => ?_) (hs _) q2 fun D C s' m H' I' q hn f => ⟨m, hn, fun h'' sb => ?_⟩
  · have hb := h.blk (scope := scope) s H C cl fp
    exact loop_body rfl hb.calm compDen_dict C1 rfl (hi1 _ hb) (hg1 _ hb) (ht1 _ hb) (body_dict rfl (hk _ hb) (hx _ hb) D) (fun i hi => nomatch hi) (hs1 _)
  · obtain ⟨f0, f1, f2, f3, f4, f5⟩ := f
    exact ⟨.ref D, H', I'.turned (t' := s'.toks) (fun b o hb e => (sb.2 b hb).trans e) f0 f1 f3 f4 f5, rfl, q⟩
end
end DS
set_option Elab.async false
set_option linter.all false
set_option maxRecDepth 100000
set_option maxHeartbeats 4000000
namespace DS
open PySem PySem.Spec L2
open PyProof.Rows hiding St

/-! ### calls, defs -/
def spD (G : Gb) (n : Nat) (m : List D → Sto → Res D) : Sp := fun vs H Q E => vs.length = n ∧ ∃ w L ds, Rel G w L H ∧ DenL G w vs ds ∧ Post G (Den G) w (m ds L) Q E
/-- the module's name x is a def of n places that does m; dd: its last places' defaults -/
structure FnIs (G : Gb) (x : Str) (n k : Nat) (m : List D → Sto → Res D) (dd : List D) : Prop where
  ex : ∃ (f : Addr) (fd : FuncData) (ps : List Str) (ds : List Value) (dvs : List V), G.mg x = some (.ref f) ∧ PySem.W.keepIn G.K (.ref f) = true ∧ Binds G.K fd ps ds ∧ Vals dvs ds ∧ (∀ w, DenL G w dvs dd) ∧
    FnOk G.P G.w G.K G.mg G.base (L2.CX G.P G.w) k f fd ps (spD G n m)
def eCall (n : Nat) (m : List D → Sto → Res D) (dd : List D) (fl : AF) : EF := fun ρ L => (fl ρ L).bind fun ds L1 => if (ds ++ dd).length = n then m (ds ++ dd) L1 else .bad
section
variable {S : Sc} {W : WX} {a b e c o i : Expr} {es : List Expr} {fl : AF} {pos p : Pos} {x : Str} {n k : Nat} {m : List D → Sto → Res D} {dd : List D}
theorem se_call (F : FnIs S.g x n k m dd) (hk : k ≤ S.k) (ha : SA S W (e :: es) fl) (hg : Glb S x := by rfl) (hdb : (x == ("__debug__" : Str)) = false := by decide)
    (he : ∀ env, starEach (e :: es) env = (false, eval e env) :: starEach es env := by intro _; rfl) (hpl : ∀ env, (backTo pos (starEach es env)).any (·.1) = false := by intro _; rfl) :
    SE S W (.Call (.Name x p) (e :: es) [] pos) (eCall n m dd fl) := fun X h => by
  obtain ⟨f, fd, ps, ds, dvs, hm, hkp, hb, hd, hdd, F⟩ := F.ex
  rw [h.P, h.w, h.K, h.mg, h.base] at F
  refine PE.imp (pe_callSD (x := x) (E := WE W) F (h.room.mono hk) (by show X.env.scope.names.lookup _ = _; rw [← h.sc]; exact hg) (by rw [← h.mg]; exact hm) (by rw [← h.K]; exact hkp) (by rw [← h.K]; exact hb) hd (fun σ => L2.passAt h.takes σ) (ha X h) hdb (he _) (hpl _)) fun σ H Q ⟨w, ρ, L, R, e, p⟩ => ?_
  refine ⟨w, ρ, L, R, e, (Post.bind (rel := DenL S.g) p).imp (fun vs H1 ⟨w1, xs, L1, l1, R1, d1, p1⟩ => ?_) fun _ _ _ z => z⟩
  split at p1
  · rename_i hn
    have hl : (vs ++ dvs).length = n := by rw [← hn]; exact (d1.append (hdd w1)).length
    exact ⟨hl, w1, L1, xs ++ dd, R1, d1.append (hdd w1), p1⟩
  · exact p1.elim
end
def fin : SRes → Res D
  | .nx _ L => .ok .non L
  | .rt d L => .ok d L
  | .err c p _ L => .err c p L
  | _ => .bad
def startE (N : Nat) (ds : List D) : Env' := ds.map some ++ List.replicate (N - ds.length) none
theorem env_start {G : Gb} {w : Wd} {N : List Str} {vs : List V} {ds : List D} (h : DenL G w vs ds) : EnvR G w (L2.start N vs) (startE N.length ds) := by
  unfold L2.start startE
  rw [← h.length]
  refine ⟨by simp [h.length], fun i d q => ?_⟩
  by_cases hi : i < ds.length
  · rw [List.getElem?_append_left (by simpa using hi)] at q
    rw [List.getElem?_map] at q
    cases hd : ds[i]? with
    | none => rw [hd] at q; cases q
    | some d' =>
      rw [hd] at q
      cases q
      obtain ⟨v, hv, dv⟩ := h.get hd
      refine ⟨v, ?_, dv⟩
      rw [List.getElem?_append_left (by rw [List.length_map]; exact getElem?_lt hv), List.getElem?_map, hv] <;> rfl
  · rw [List.getElem?_append_right (by simpa using hi)] at q
    exfalso
    have := List.mem_of_getElem? q
    have := List.eq_of_mem_replicate this
    cases this
def mOf (N : Nat) (g : SF) : List D → Sto → Res D := fun ds L => fin (g (startE N ds) L)
noncomputable def mDrop (N : Nat) (g : SF) : List D → Sto → Res D := fun ds L => dropR L (mOf N g ds L)
section
variable {G : Gb} {x qual : Str} {params : Arguments} {body : List Stmt} {scope : Scope} {dvs : List V} {kws : List (Str × V)} {f : Addr} {fd : FuncData} {N ps : List Str} {k : Nat} {g : SF} {m : List D → Sto → Res D}
theorem fin_post {w : Wd} {r : SRes} {Q : VK} {E : XK} (p : Post G (Den G) w (fin r) Q E) : PostS G w r { nx := fun _ H' => Q .non H', rt := Q } (fun c d _ H => E c d H) := by
  cases r with
  | nx ρ L => exact fun w1 σ H l R e => p w1 H .non l R .non
  | rt d L => exact fun w1 v H l R h => p w1 H v l R h
  | err c q ρ L => exact fun w1 σ H dx l R e x C m => p w1 H dx l R x C m
  | bk ρ L => exact p.elim
  | ct ρ L => exact p.elim
  | bad => exact p
theorem fn_body (F : FunD G.K x qual params body scope dvs kws f fd) (Sc0 : FnScope N ps scope) (hb : ∀ W, SSs ⟨G, N, scope, fun _ => true, k⟩ W body g)
    (hm : ∀ w L H ds Q E, Rel G w L H → Post G (Den G) w (m ds L) Q E → Post G (Den G) w (mOf N.length g ds L) Q E) :
    FnOk G.P G.w G.K G.mg G.base (L2.CX G.P G.w) (k + 1) f fd ps (spD G ps.length m) := by
  refine F.ok Sc0 (fun vs H Q E h => h.1) fun cdv A outer s H vs Q E hr ⟨hl, w, L, ds, R, d, p⟩ => ?_
  have hX : Sc.Has ⟨G, N, scope, fun _ => true, k⟩ (fun c d _ H => E c d H) (cxOf (L2.CX G.P G.w) G.P G.w G.K G.mg G.base N qual scope f cdv A outer s H E) :=
    ⟨rfl, rfl, rfl, rfl, rfl, rfl, rfl, rfl, rfl, hr, takes_of rfl rfl rfl rfl, passes_of rfl⟩
  refine ⟨_, hb _ _ hX, w, startE N.length ds, L, R, env_start d, fin_post (hm w L H ds Q E R p)⟩
theorem fnIs_plain (F : FunD G.K x qual params body scope dvs kws f fd) (Sc0 : FnScope N ps scope) (hb : ∀ W, SSs ⟨G, N, scope, fun _ => true, k⟩ W body g) {y : Str} (hy : G.mg y = some (.ref f)) {us : List Value} {dd : List D}
    (hB : Binds G.K fd ps us) (hd : Vals dvs us) (hdd : ∀ w, DenL G w dvs dd) : FnIs G y ps.length (k + 1) (mOf N.length g) dd :=
  ⟨f, fd, ps, us, dvs, hy, F.kp, hB, hd, hdd, fn_body F Sc0 hb fun _ _ _ _ _ _ _ p => p⟩
theorem fnIs_drop (F : FunD G.K x qual params body scope dvs kws f fd) (Sc0 : FnScope N ps scope) (hb : ∀ W, SSs ⟨G, N, scope, fun _ => true, k⟩ W body g) {y : Str} (hy : G.mg y = some (.ref f)) {us : List Value} {dd : List D}
    (hB : Binds G.K fd ps us) (hd : Vals dvs us) (hdd : ∀ w, DenL G w dvs dd) : FnIs G y ps.length (k + 1) (mDrop N.length g) dd :=
  ⟨f, fd, ps, us, dvs, hy, F.kp, hB, hd, hdd, fn_body F Sc0 hb fun w L H ds Q E R p => Post.drop R p⟩
end
/-- a def whose results m tells more plainly -/
theorem FnIs.imp {G : Gb} {x : Str} {n k : Nat} {m m' : List D → Sto → Res D} {dd : List D} (F : FnIs G x n k m dd) (h : ∀ ds L, ds.length = n → m' ds L = .bad ∨ m' ds L = m ds L) : FnIs G x n k m' dd := by
  obtain ⟨f, fd, ps, ds, dvs, h1, h2, h3, h4, h5, F⟩ := F.ex
  refine ⟨f, fd, ps, ds, dvs, h1, h2, h3, h4, h5, ⟨fun vs H Q E q => ?_, fun A outer s H args us vs Q E hr e0 hb r q => ?_⟩⟩
  · obtain ⟨hl, w, L, ds, R, d, p⟩ := q
    refine F.len vs H Q E ⟨hl, w, L, ds, R, d, ?_⟩
    rcases h ds L (d.length.symm.trans hl) with z | z
    · rw [z] at p; exact p.elim
    · rw [z] at p; exact p
  · obtain ⟨hl, w, L, ds, R, d, p⟩ := q
    refine F.run A outer s H args us vs Q E hr e0 hb r ⟨hl, w, L, ds, R, d, ?_⟩
    rcases h ds L (d.length.symm.trans hl) with z | z
    · rw [z] at p; exact p.elim
    · rw [z] at p; exact p
end DS
set_option Elab.async false
set_option linter.all false
set_option maxRecDepth 100000
set_option maxHeartbeats 4000000
namespace DS
open PySem PySem.Spec L2
open PyProof.Rows hiding St

section
variable {S : Sc} {W : WX} {a b c e c o : Expr} {es : List Expr} {fa fb fc f : EF} {fl : AF} {pos p : Pos}
/-! ### a, b = x, y -/
def sPar (i j : Nat) (fl : AF) : SF := fun ρ L => match fl ρ L with
  | .ok [d, e] L1 => .nx ((ρ.set i (some d)).set j (some e)) L1
  | .err c p L1 => .err c p ρ L1
  | _ => .bad
theorem ss_par (i j : Nat) {x y : Str} {px py pt pt2 : Pos} {kt k2} (hN : S.N.Nodup) (ha : SA S W [a, b] fl) (hi : S.N[i]? = some x := by rfl) (hj : S.N[j]? = some y := by rfl) (hij : i ≠ j := by decide)
    (hx : S.sc.names.lookup x = some .local := by rfl) (hy : S.sc.names.lookup y = some .local := by rfl)
    (hw : ∀ env : Env, env.scope = S.sc → swappedStores [.Tuple [.Name x px, .Name y py] kt pt] (.Tuple [a, b] k2 pt2) env = pure (some [x, y]) := by intro env h; cases env; cases h; rfl)
    (hs : ∀ env, swapsWithSole [.Tuple [.Name x px, .Name y py] kt pt] (.Tuple [a, b] k2 pt2) pos.line env = pure false := by intro _; rfl) :
    SS S W (.Assign [.Tuple [.Name x px, .Name y py] kt pt] (.Tuple [a, b] k2 pt2) pos) (sPar i j fl) := fun X h =>
  PS.imp (ps_par (i := i) (j := j) h.calm (by rw [← h.N]; exact hN) (by rw [← h.N]; exact hi) (by rw [← h.N]; exact hj) hij (by rw [← h.sc]; exact hx) (by rw [← h.sc]; exact hy) (ha X h) (hw _ h.sc.symm) (hs _)) fun D σ H ⟨w, ρ, L, R, e, p⟩ => by
    refine ⟨w, ρ, L, R, e, ?_⟩
    unfold sPar at p
    cases q : fl ρ L with
    | bad => rw [q] at p; exact p
    | err c x L1 => rw [q] at p; exact fun w1 H1 dx l R1 x1 C m => p w1 σ H1 dx l R1 (e.le l) x1 C m
    | ok ds L1 =>
      rw [q] at p
      match ds, p with
      | [d, d'], p =>
        intro w1 H1 vs l R1 dv
        cases dv with
        | cons h1 t =>
          cases t with
          | cons h2 t =>
            cases t
            exact ⟨_, _, rfl, p w1 _ H1 l R1 (((e.le l).set i h1).set j h2)⟩
      | [], p => exact p.elim
      | [_], p => exact p.elim
      | _ :: _ :: _ :: _, p => exact p.elim
/-- the same where a name is seen from within -/
theorem ss_asgC {own : List Nat} {tg : Expr} {g : GF} (he : SE S W e f) (hg : SG S W own tg g) (hs : ∀ env, swapsWithSole [tg] e pos.line env = pure false := by intro _; rfl) (hw : ∀ env : Env, env.scope = S.sc → swappedStores [tg] e env = pure none := by intro env h; cases env; cases h; rfl)
    (h1 : ∀ env, (assignEach [tg] env).map (·.2) = [assign tg env] := by intro _; rfl) : SS S W (.Assign [tg] e pos) (sAsg f g) := fun X h =>
  PS.imp (ps_asg (he X h) (hg X h) (hs _) (hw _ h.sc.symm) (h1 _)) fun D σ H ⟨w, ρ, L, R, e, p⟩ => ⟨w, ρ, L, R, e, (PostS.bind e p).imp (fun v H1 ⟨w1, d, L1, l1, R1, d1, p1⟩ => by
    split at p1
    · rename_i ρ' eg
      exact ⟨w1, ρ, L1, d, ρ', R1, e.le l1, d1, eg, fun σ' e' _ => p1 w1 σ' H1 (Wd.le.refl _) R1 e'⟩
    · exact p1.elim) fun _ _ _ z => z⟩
/-- name = [..] where the name is seen from within, or on another line -/
theorem ss_setN (i : Nat) {x : Str} {pos' : Pos} (hN : S.N.Nodup) (he : SE S W e f) (hi : S.N[i]? = some x := by rfl) (hx : Loc S.sc x := by first | exact Or.inl rfl | exact Or.inr rfl) (hs : ∀ env : Env, env.scope = S.sc → swapsWith e (some (.Name x pos')) pos.line env = pure false := by intro env h; cases env; cases h; rfl)
    (hf : S.fn x = true ∨ S.sc.names.lookup x = some .local := by first | exact .inl rfl | exact .inr rfl) : SS S W (.Assign [.Name x pos'] e pos) (sSet i f) := fun X h =>
  PS.imp (ps_set (i := i) (by rw [← h.N]; exact hN) (by rw [← h.N]; exact hi) (by rw [← h.sc]; exact hx) (he X h) (hs _ h.sc.symm) (by rw [← h.fn, ← h.sc]; exact hf)) fun D σ H ⟨w, ρ, L, R, e, p⟩ => ⟨w, ρ, L, R, e, (PostS.bind e p).imp (fun v H1 ⟨w1, d, L1, l1, R1, d1, p1⟩ =>
    p1 w1 _ H1 (Wd.le.refl _) R1 ((e.le l1).set i d1)) fun _ _ _ z => z⟩
/-! ### lists made by + and *, in a box -/
def gMulB (d e : D) (L : Sto) : Res D := match lstOf L d, e with
  | some xs, .int k => if -(2 ^ 63) ≤ k ∧ k < 2 ^ 63 ∧ xs.length * k.toNat ≤ 16777216 then lstOut true (List.replicate k.toNat xs).flatten L else .bad
  | _, _ => .bad
theorem gMulB_ok {G : Gb} : R2D G (rMulU G.K) gMulB := by
  intro w L H x y d e Q E R dx dy p
  unfold gMulB at p
  split at p
  · rename_i xs k hx
    split at p
    · rename_i h
      cases dy
      obtain ⟨a, vs, rfl, h1, r1⟩ := lst_at R dx hx
      have hl := r1.length
      exact .inr (.inl ⟨a, _, vs, rfl, rfl, h1, h.1, h.2.1, by rw [hl]; exact lineLe h.2.2, fun q hq => lstOut_go p R (r1.rep _) q hq⟩)
    · exact p.elim
  · exact p.elim
theorem se_mulB (ha : SE S W a fa) (hb : SE S W b fb) : SE S W (.BinOp a .Mult b pos) (e2 gMulB fa fb) := fun X h => se_op (r := rMulU S.g.K) (fun X h => by rw [h.K]; exact op_mulU) gMulB_ok ha hb X h
def gAddB (d e : D) (L : Sto) : Res D := match lstOf L d, lstOf L e with
  | some xs, some ys => if (xs ++ ys).length ≤ 16777216 then lstOut true (xs ++ ys) L else .bad
  | _, _ => .bad
theorem gAddB_ok {G : Gb} : R2D G (rAddU G.K) gAddB := by
  intro w L H x y d e Q E R dx dy p
  unfold gAddB at p
  split at p
  · rename_i xs ys h1 h2
    split at p
    · rename_i hz
      obtain ⟨a, vs, rfl, ha, da⟩ := lst_at R dx h1
      obtain ⟨b, us, rfl, hb, db⟩ := lst_at R dy h2
      refine .inr (.inl ⟨a, b, vs, us, rfl, rfl, ha, hb, ?_, fun q hq => lstOut_go p R (da.append db) q hq⟩)
      rw [List.length_append] at hz
      rw [da.length, db.length]; exact lineLe hz
    · exact p.elim
  · exact p.elim
theorem se_addB (ha : SE S W a fa) (hb : SE S W b fb) : SE S W (.BinOp a .Add b pos) (e2 gAddB fa fb) := fun X h => se_op (r := rAddU S.g.K) (fun X h => by rw [h.K]; exact op_addU) gAddB_ok ha hb X h
/-- a constant of the module -/
theorem se_cst {x : Str} {v : V} {d : D} (hm : ∃ u, S.g.mg x = some u ∧ RelV v u) (hd : ∀ w, Den S.g w v d) (hg : Glb S x := by rfl) (hdb : (x == ("__debug__" : Str)) = false := by decide) : SE S W (.Name x pos) (eC d) := fun X h => by
  obtain ⟨u, h1, h2⟩ := hm
  exact se_glob (W := W) hg h1 h2 hd hdb X h
/-- is (not) True, False -/
def gIsB (d e : D) (L : Sto) : Res D := match d, e with
  | .bl a, .bl b => .ok (.bl (decide (a = b))) L
  | _, _ => .bad
def gNotB (d e : D) (L : Sto) : Res D := match d, e with
  | .bl a, .bl b => .ok (.bl (!decide (a = b))) L
  | _, _ => .bad
theorem gIsB_ok {G : Gb} : R2D G (fun x y H Q => ∃ a b, x = .bl a ∧ y = .bl b ∧ Q (.bl (decide (a = b))) H) gIsB := by
  intro w L H x y d e Q E R dx dy p
  unfold gIsB at p
  split at p
  · cases dx; cases dy; exact ⟨_, _, rfl, rfl, Post.ok p (.refl w) R (.bl _)⟩
  · exact p.elim
theorem gNotB_ok {G : Gb} : R2D G (fun x y H Q => ∃ a b, x = .bl a ∧ y = .bl b ∧ Q (.bl (!decide (a = b))) H) gNotB := by
  intro w L H x y d e Q E R dx dy p
  unfold gNotB at p
  split at p
  · cases dx; cases dy; exact ⟨_, _, rfl, rfl, Post.ok p (.refl w) R (.bl _)⟩
  · exact p.elim
theorem se_isB (ha : SE S W a fa) (hb : SE S W b fb) : SE S W (.Compare a [.Is] [b] pos) (e2 gIsB fa fb) := se_cmp (fun _ _ => op_is_bl) gIsB_ok ha hb (nomark _)
theorem st_isB (ha : SE S W a fa) (hb : SE S W b fb) : ST S W (.Compare a [.Is] [b] pos) (fun ρ L => asB (e2 gIsB fa fb ρ L)) := st_cmp (fun _ _ => op_is_bl) gIsB_ok ha hb (nomark _)
theorem se_notB (ha : SE S W a fa) (hb : SE S W b fb) : SE S W (.Compare a [.IsNot] [b] pos) (e2 gNotB fa fb) := se_cmp (fun _ _ => op_isnot_bl) gNotB_ok ha hb (nomark _)
theorem st_notB (ha : SE S W a fa) (hb : SE S W b fb) : ST S W (.Compare a [.IsNot] [b] pos) (fun ρ L => asB (e2 gNotB fa fb ρ L)) := st_cmp (fun _ _ => op_isnot_bl) gNotB_ok ha hb (nomark _)
end
/-! ### sorted(t), t a tuple of ints -/
section
variable {prog : Program} {w : World} {A : Around} {E : Value → Shared → Prop} {s : Shared}
theorem collectT {t : Addr} {vs : List Value} {Q : List Value → Shared → Prop} (ht : IsTup s.heap t vs.toArray) (hz : vs.length ≤ sizeLine)
    (h : Q vs { s with heap := (s.heap.push (seqObj "list" #[] 0)).update s.heap.objs.size (Obj.mapSeq (· ++ vs.toArray)) }) : wpAny (model prog w) A (collect (.ref t)) Q E s := by
  obtain ⟨ob, hob, hcls, n, hdat⟩ := ht
  have hob' : (s.heap.push (seqObj "list" #[] 0)).get? t = some ob := Heap.get?_push_of_some _ hob
  have hnew : (s.heap.push (seqObj "list" #[] 0)).get? s.heap.objs.size = some (seqObj "list" #[] 0) := Heap.get?_push_size _ rfl
  unfold collect
  refine wpAny_bind (wpAny_runValue (codeAny_builtin entry_proto_collect' ?_))
  show wpAny _ _ (do again (.builtin "list.__iadd__" ⟨[← newList [], .ref t], []⟩)) _ _ s
  refine wpAny_bind (wpAny_newList (wpAny_pure ⟨Code.quiet_builtin _ (by decide +kernel), codeAny_builtin entry_list_iadd' ?_⟩))
  show wpAny _ _ (Builtin.List.listExtendWith (.ref s.heap.objs.size) (.ref t) (.ref s.heap.objs.size)) _ _ { s with heap := s.heap.push (seqObj "list" #[] 0) }
  unfold Builtin.List.listExtendWith
  refine wpAny_bind (wpAny_typeOf (T := "tuple") ⟨ob, hob', hcls⟩ ?_)
  have hty : (Value.type "tuple" == Value.type "tuple") = true := by rfl
  rw [if_pos (by rw [hty]; simp)]
  refine wpAny_bind (listItems_at hob' hdat (wpAny_bind (listItems_at (xs := #[]) (n := 0) hnew rfl ?_)))
  rw [if_neg (by simp)]
  refine wpAny_bind (listUpdate_at (xs := #[]) (n := 0) hnew rfl ?_ (Nat.zero_le _) (by show (#[] ++ vs.toArray).size ≤ sizeLine + 1; simp only [Array.size_append, List.size_toArray, List.length_nil]; omega))
  refine wpAny_pure ?_
  show wpAny (model prog w) A (do
    let o ← load s.heap.objs.size
    match o.data with
    | .seq xs _ => pure xs.toList
    | _ => unsupported "internal:collect") Q E { s with heap := (s.heap.push (seqObj "list" #[] 0)).update s.heap.objs.size (Obj.mapSeq (· ++ vs.toArray)) }
  refine wpAny_bind (wpAny_load (get?_update_seq hnew _) ?_)
  show wpAny _ _ (pure ((#[] : Array Value) ++ vs.toArray).toList) Q E _
  have he : ((#[] : Array Value) ++ vs.toArray).toList = vs := by simp
  rw [he]
  exact wpAny_pure h
theorem sortedT {t : Addr} {vs : List Value} {ltv : Value → Value → Bool} {Q : Value → Shared → Prop} (O : SrtO.Swo ltv) (ht : IsTup s.heap t vs.toArray) (hz : vs.length ≤ sizeLine)
    (hS : 2 ≤ vs.length → ∀ (h₁ : Heap) (a : Addr), SrtO.SortableO prog w A.in1.in1 { s with heap := h₁ } a vs ltv)
    (h : ∀ out : List Value, SrtO.Srtd ltv out → SrtO.Stb ltv out vs → Q (.ref (s.heap.objs.size + 1)) { s with heap := sortedAll s.heap vs out.toArray }) :
    wpAny (model prog w) A (call (.builtin "sorted") [.ref t]) Q E s := by
  refine Calls.call_function_entry kind_sorted plain_sorted entry_sorted (args_sorted1 _) ?_
  unfold Builtin.«sorted»
  refine wpAny_bind (m := checkCount "sorted" 1 1 _) (wpAny_pure (wpAny_bind (collectT ht hz (wpAny_bind (wpAny_newList ?_ hz)))))
  have hsz : ((s.heap.push (seqObj "list" #[] 0)).update s.heap.objs.size (Obj.mapSeq (· ++ vs.toArray))).objs.size = s.heap.objs.size + 1 := (Heap.size_update _ _ _).trans (size_push' _ _)
  generalize hh : (s.heap.push (seqObj "list" #[] 0)).update s.heap.objs.size (Obj.mapSeq (· ++ vs.toArray)) = h1 at hsz ⊢
  have hoL : (h1.push (seqObj "list" vs.toArray 0)).get? (s.heap.objs.size + 1) = some (seqObj "list" vs.toArray 0) := by rw [← hsz]; exact Heap.get?_push_size _ rfl
  show wpAny _ _ _ _ _ { s with heap := h1.push (seqObj "list" vs.toArray 0) }
  rw [hsz]
  refine wpAny_bind (wpAny_holding (wpAny_call_entry slot_list_sort ⟨_, hoL, rfl⟩ entry_list_sort (SrtO.list_sort_ord O hoL hz (fun h2 => hS h2 _ _) fun out hs hb => ⟨_, rfl, ?_⟩) (args_list_sort _)))
  subst hh
  exact wpAny_pure ⟨_, rfl, h out hs hb⟩
end
def rSortedTI (K : PySem.W.Frag) : List V → Hp → VK → Prop := fun vs H Q => ∃ (a : Addr) (ns : List Int), vs = [V.ref a] ∧ SqT K H a (ns.map V.int) ∧ ∀ (ms : List Int) (p : Addr), ms.Perm ns → ms.Pairwise (· ≤ ·) → H p = none → Q (.ref p) (upd H p (.lst (ms.map V.int)))
theorem cr_sortedTI {X : Cx} : CallR X (.builtin "sorted") (rSortedTI X.K) := by
  intro pins s σ H vs us Q I r h
  obtain ⟨a, ns, rfl, hs, q⟩ := h
  obtain ⟨its, rv, hl, hz⟩ := I.tuple hs
  rw [Vals.ref1 r]
  have hi := rv.ints
  have hzz := hz
  rw [List.length_map] at hzz
  refine sortedT SrtO.swo_int hl (by rw [← rv.length]; exact hz) (fun h2 _ _ => SrtO.ints_sortable hi h2) fun out h1 h2 => ?_
  obtain ⟨k1, k2, k3⟩ := SrtO.ints_out hi h1 h2
  obtain ⟨ep, he'⟩ := PyProof.Rows.sortedAll_at s.heap its out.toArray
  have hlen : ((out.map SrtO.iv).map V.int).length ≤ sizeLine := by rw [List.length_map, k2.length_eq]; exact hzz
  have new : ObjOk X.prog X.w (upd H (s.heap.objs.size + 1) (.lst ((out.map SrtO.iv).map V.int))) (sortedAll s.heap its out.toArray) (s.heap.objs.size + 1) (.lst ((out.map SrtO.iv).map V.int)) := ⟨hlen, out, ep, vals_of_ints k1, he'⟩
  exact ⟨.ref _, _, I.laid (t' := s.toks) (fun _ _ => PyProof.Rows.sortedAll_old) (Nat.le_succ _) new, rfl, q _ _ k2 k3 (I.hok.fresh (Nat.le_succ _))⟩
section
variable {S : Sc} {W : WX} {e : Expr} {es : List Expr} {fl : AF} {pos p : Pos}
def gSort (box : Bool) (ds : List D) (L : Sto) : Res D := match ds with
  | [d] => (match seqOf L d with
    | some (xs, _) => (match dInts xs with
      | some ns => lstOut box ((srtI ns).map D.int) L
      | none => .bad)
    | none => .bad)
  | _ => .bad
def rSortU2 (K : PySem.W.Frag) : List V → Hp → VK → Prop := fun vs H Q => rSortedI K vs H Q ∨ rSortedTI K vs H Q
theorem gSort_ok {G : Gb} (box : Bool) : RnD G (rSortU2 G.K) (gSort box) := by
  intro w L H x ds Q E R dx p
  unfold gSort at p
  split at p
  · cases dx with
    | cons h t =>
      cases t
      split at p
      · rename_i xs s hx
        split at p
        · rename_i ns hn
          obtain ⟨k, a, vs, rfl, hq, r⟩ := seq_now R h hx
          have := r.ints hn
          subst this
          have go : ∀ (ms : List Int) (q : Addr), ms.Perm ns → ms.Pairwise (· ≤ ·) → H q = none → Q (.ref q) (upd H q (.lst (ms.map V.int))) := fun ms q h1 h2 hq => by
            rw [srtI_unique h1 h2]
            exact lstOut_go p R (.of_ints _) q hq
          cases k with
          | true => exact .inl ⟨a, ns, rfl, hq, go⟩
          | false => exact .inr ⟨a, ns, rfl, hq, go⟩
        · exact p.elim
      · exact p.elim
  · exact p.elim
theorem se_sort (box : Bool) (B : Bl S.g) (ha : SA S W (e :: es) fl) (hg : Glb S "sorted" := by rfl) (he : ∀ env, starEach (e :: es) env = (false, eval e env) :: starEach es env := by intro _; rfl) (hpl : ∀ env, (backTo pos (starEach es env)).any (·.1) = false := by intro _; rfl) :
    SE S W (.Call (.Name "sorted" p) (e :: es) [] pos) (en (gSort box) fl) := fun X h =>
  se_callB (id := "sorted") (r := rSortU2 S.g.K) (fun X h => by rw [h.K]; exact cr_sortedI.or cr_sortedTI) (gSort_ok box) B.sorted (by decide +kernel) ha hg (by decide) (by decide) he hpl X h
end
end DS
set_option Elab.async false
set_option linter.all false
set_option maxRecDepth 100000
set_option maxHeartbeats 4000000
namespace DS
open PySem PySem.Spec L2
open PyProof.Rows hiding St

/-! ### values worked out -/
section
variable {L : Sto} {i j k : Int} {xs ys ds : List D}
theorem gAdd_int : gAdd (.int i) (.int j) L = .ok (.int (i + j)) L := rfl
theorem gSub_int : gSub (.int i) (.int j) L = .ok (.int (i - j)) L := rfl
theorem gMul_int (h : (-(2 ^ 64) < i ∧ i < 2 ^ 64) ∨ (-(2 ^ 64) < j ∧ j < 2 ^ 64)) : gMul (.int i) (.int j) L = .ok (.int (i * j)) L := if_pos h
theorem gDiv_int (h : 0 < j) (h2 : j < 2 ^ 64) : gDiv (.int i) (.int j) L = .ok (.int (i / j)) L := if_pos ⟨h, by omega⟩
theorem gMod_int (h : 0 < j) : gMod (.int i) (.int j) L = .ok (.int (i % j)) L := if_pos h
theorem gNeg_int : gNeg (.int i) L = .ok (.int (-i)) L := rfl
theorem gLt_int : gLt (.int i) (.int j) L = .ok (.bl (decide (i < j))) L := rfl
theorem gLe_int : gLe (.int i) (.int j) L = .ok (.bl (decide (i ≤ j))) L := rfl
theorem gGt_int : gGt (.int i) (.int j) L = .ok (.bl (decide (j < i))) L := rfl
theorem gGe_int : gGe (.int i) (.int j) L = .ok (.bl (decide (j ≤ i))) L := rfl
theorem gLtI_int : gLtI (.int i) (.int j) L = .ok (.bl (decide (i < j))) L := rfl
theorem seqOf_tg : seqOf L (.tg xs) = some (xs, []) := rfl
theorem seqOf_tup : seqOf L (.tup xs) = some (xs, []) := rfl
theorem seqOf_lst : seqOf L (.lst xs) = some (xs, []) := rfl
theorem seqOf_ro : seqOf L (.ro xs) = some (xs, []) := rfl
theorem seqOf_loc {n : Nat} (h : L[n]? = some (.lst xs)) : seqOf L (.loc n) = some (xs, [(n, .lst xs)]) := by simp only [seqOf, h]
theorem sqlOf_lst : sqlOf L (.lst xs) = some xs := rfl
theorem sqlOf_ro : sqlOf L (.ro xs) = some xs := rfl
theorem sqlOf_loc {n : Nat} (h : L[n]? = some (.lst xs)) : sqlOf L (.loc n) = some xs := by simp only [sqlOf, lstOf, h]
theorem lstOf_lst : lstOf L (.lst xs) = some xs := rfl
theorem lstOf_loc {n : Nat} (h : L[n]? = some (.lst xs)) : lstOf L (.loc n) = some xs := by simp only [lstOf, h]
theorem boxL_loc {n : Nat} (h : L[n]? = some (.lst xs)) : boxL L (.loc n) = some (n, xs) := by simp only [boxL, h]
theorem gLen_tg : gLen [.tg xs] L = .ok (.int xs.length) L := rfl
theorem gLen_tup : gLen [.tup xs] L = .ok (.int xs.length) L := rfl
theorem gLen_lst : gLen [.lst xs] L = .ok (.int xs.length) L := rfl
theorem gLen_ro : gLen [.ro xs] L = .ok (.int xs.length) L := rfl
theorem gLen_loc {n : Nat} (h : L[n]? = some (.lst xs)) : gLen [.loc n] L = .ok (.int xs.length) L := by unfold gLen; simp only [seqOf_loc h]
theorem gLen_dK {kvs : List (Key × D)} : gLen [.dK kvs] L = .ok (.int kvs.length) L := rfl
theorem gLen_locK {n : Nat} {kvs : List (Key × D)} (h : L[n]? = some (.dK kvs)) : gLen [.loc n] L = .ok (.int kvs.length) L := by unfold gLen; simp only [seqOf, dictOf, h]
theorem dInts_map : ∀ ns : List Int, dInts (ns.map D.int) = some ns
  | [] => rfl
  | n :: ns => by show (dInts (ns.map D.int)).map _ = _; rw [dInts_map ns]; rfl
theorem dBls_map : ∀ ns : List Bool, dBls (ns.map D.bl) = some ns
  | [] => rfl
  | n :: ns => by show (dBls (ns.map D.bl)).map _ = _; rw [dBls_map ns]; rfl
theorem gInt_int : gInt [.int i] L = .ok (.int i) L := rfl
theorem gInt_bl {b : Bool} : gInt [.bl b] L = .ok (.int (if b then 1 else 0)) L := rfl
theorem gAbs_int : gAbs [.int i] L = .ok (.int (if i < 0 then -i else i)) L := rfl
theorem gTuple_lst (h : xs.length ≤ 16777216) : gTuple [.lst xs] L = .ok (.tg xs) L := by unfold gTuple; simp only [sqlOf_lst, newTG, if_pos h]
theorem gTuple_loc {n : Nat} (hn : L[n]? = some (.lst xs)) (h : xs.length ≤ 16777216) : gTuple [.loc n] L = .ok (.tg xs) L := by unfold gTuple; simp only [sqlOf_loc hn, newTG, if_pos h]
theorem gTuple_tg : gTuple [.tg xs] L = .ok (.tg xs) L := rfl
theorem gTuple_tup : gTuple [.tup xs] L = .ok (.tup xs) L := rfl
theorem lstOut_f : lstOut false xs L = .ok (.lst xs) L := rfl
theorem lstOut_t : lstOut true xs L = .ok (.loc L.length) (L ++ [.lst xs]) := rfl
theorem gMax_ii : gMax [.int i, .int j] L = .ok (.int (max i j)) L := by
  show Res.ok (D.int (if j > i then j else i)) L = _
  congr 2
  split <;> omega
theorem gMin_ii : gMin [.int i, .int j] L = .ok (.int (min i j)) L := by
  show Res.ok (D.int (if j < i then j else i)) L = _
  congr 2
  split <;> omega
theorem asB_bl {b : Bool} : asB (.ok (.bl b) L) = .ok b L := rfl
end

/-! ### loops worked out -/
section
variable {src : List (Nat × D)} {tg : GF} {t : TF} {f : EF} {body : SF} {ρ : Env'} {L : Sto}
theorem srcOk_nil : srcOk L [] := fun _ h => nomatch h
/-- a list of what does not change the store -/
theorem lcGo_pure {α : Type} (enc : α → D) (p : α → Bool) (y : α → D) (hs : srcOk L src) : ∀ (xs : List α) (acc : List D), acc.length + xs.length ≤ 16777216 →
    (∀ a ∈ xs, ∃ ρ1, tg (enc a) ρ = some ρ1 ∧ t ρ1 L = .ok (p a) L ∧ (p a = true → f ρ1 L = .ok (y a) L)) → lcGo src tg t f ρ (xs.map enc) acc L = .ok (acc ++ (xs.filter p).map y) L
  | [], acc, _, _ => by simp [lcGo]
  | a :: xs, acc, hl, h => by
    obtain ⟨ρ1, h1, h2, h3⟩ := h a (List.mem_cons_self)
    have hr := fun acc hl => lcGo_pure enc p y hs xs acc hl fun b hb => h b (List.mem_cons_of_mem _ hb)
    rw [List.length_cons] at hl
    rw [List.map_cons, lcGo, h1]
    dsimp only
    rw [h2]
    cases hp : p a with
    | true =>
      dsimp only
      rw [h3 hp]
      dsimp only
      rw [if_pos ⟨by omega, hs⟩, hr _ (by rw [List.length_append, List.length_singleton]; omega)]
      simp [List.filter_cons, hp]
    | false =>
      dsimp only
      rw [if_pos hs, hr _ (by omega)]
      simp [List.filter_cons, hp]
/-- the same without a test -/
theorem lcGo_map {α : Type} (enc : α → D) (y : α → D) (hs : srcOk L src) (xs : List α) (acc : List D) (hl : acc.length + xs.length ≤ 16777216)
    (h : ∀ a ∈ xs, ∃ ρ1, tg (enc a) ρ = some ρ1 ∧ f ρ1 L = .ok (y a) L) : lcGo src tg tTrue f ρ (xs.map enc) acc L = .ok (acc ++ xs.map y) L := by
  have e := lcGo_pure (t := tTrue) (f := f) (tg := tg) (ρ := ρ) enc (fun _ => true) y hs xs acc hl fun a ha => let ⟨ρ1, h1, h2⟩ := h a ha; ⟨ρ1, h1, rfl, fun _ => h2⟩
  rw [e, List.filter_eq_self.mpr fun _ _ => rfl]
/-- what may change the store: I is kept, P holds of each -/
theorem lcGo_inv {α : Type} (enc : α → D) (I : Sto → Prop) (P : α → D → Prop) (hs : ∀ L, I L → srcOk L src) : ∀ (xs : List α) (acc : List D) (L : Sto), I L → acc.length + xs.length ≤ 16777216 →
    (∀ a ∈ xs, ∀ L, I L → ∃ ρ1 y L', tg (enc a) ρ = some ρ1 ∧ f ρ1 L = .ok y L' ∧ I L' ∧ P a y) → ∃ ys L', lcGo src tg tTrue f ρ (xs.map enc) acc L = .ok (acc ++ ys) L' ∧ I L' ∧ ys.length = xs.length ∧ ∀ (i : Nat) a y, xs[i]? = some a → ys[i]? = some y → P a y
  | [], acc, L, hI, _, _ => ⟨[], L, by simp [lcGo], hI, rfl, fun i a y h => by simp at h⟩
  | a :: xs, acc, L, hI, hl, h => by
    obtain ⟨ρ1, y, L1, h1, h2, h3, h4⟩ := h a (List.mem_cons_self) L hI
    rw [List.length_cons] at hl
    obtain ⟨ys, L2, e, i2, l2, p2⟩ := lcGo_inv enc I P hs xs (acc ++ [y]) L1 h3 (by rw [List.length_append, List.length_singleton]; omega) fun b hb => h b (List.mem_cons_of_mem _ hb)
    refine ⟨y :: ys, L2, ?_, i2, by simp [l2], fun i b z hb hz => ?_⟩
    · rw [List.map_cons, lcGo, h1]
      dsimp only [tTrue]
      rw [h2]
      dsimp only
      rw [if_pos ⟨by omega, hs _ h3⟩, e]
      simp
    · cases i with
      | zero => simp at hb hz; subst hb hz; exact h4
      | succ i => exact p2 i b z (by simpa using hb) (by simpa using hz)
theorem forGo_inv (xs : List D) (I : Nat → Env' → Sto → Prop) (step : ∀ i d ρ L, xs[i]? = some d → I i ρ L → ∃ ρ1 ρ2 L2, tg d ρ = some ρ1 ∧ body ρ1 L = .nx ρ2 L2 ∧ srcOk L2 src ∧ I (i + 1) ρ2 L2) :
    ∀ (n : Nat) (i : Nat) (ρ : Env') (L : Sto), xs.length - i = n → i ≤ xs.length → I i ρ L → ∃ ρ' L', forGo tg body src (xs.drop i) ρ L = .nx ρ' L' ∧ I xs.length ρ' L'
  | 0, i, ρ, L, hn, hi, h => by
    have e : i = xs.length := by omega
    rw [List.drop_eq_nil_of_le (by omega)]
    exact ⟨ρ, L, by simp [forGo], by rw [← e]; exact h⟩
  | n + 1, i, ρ, L, hn, hi, h => by
    have hlt : i < xs.length := by omega
    obtain ⟨ρ1, ρ2, L2, h1, h2, h3, h4⟩ := step i xs[i] ρ L (List.getElem?_eq_getElem hlt) h
    obtain ⟨ρ', L', e, hI⟩ := forGo_inv xs I step n (i + 1) ρ2 L2 (by omega) (by omega) h4
    refine ⟨ρ', L', ?_, hI⟩
    rw [List.drop_eq_getElem_cons hlt, forGo]
    simp only [h1, h2, if_pos h3, e]
theorem sFor_inv {fi : IF} {its : Its} {L1 : Sto} (hi : fi ρ L = .ok its L1) (I : Nat → Env' → Sto → Prop) (h0 : I 0 ρ L1) (step : ∀ i d ρ L, its.ds[i]? = some d → I i ρ L → ∃ ρ1 ρ2 L2, tg d ρ = some ρ1 ∧ body ρ1 L = .nx ρ2 L2 ∧ srcOk L2 its.src ∧ I (i + 1) ρ2 L2) :
    ∃ ρ' L', sFor fi tg body ρ L = .nx ρ' L' ∧ I its.ds.length ρ' L' := by
  obtain ⟨ρ', L', e, h⟩ := forGo_inv its.ds I step its.ds.length 0 ρ L1 (by omega) (Nat.zero_le _) h0
  refine ⟨ρ', L', ?_, h⟩
  unfold sFor
  rw [hi]
  simpa using e
theorem sWhile_inv {t : TF} (I : Nat → Env' → Sto → Prop) (Out : Env' → Sto → Prop) (step : ∀ m ρ L, I m ρ L → ∃ b L1, t ρ L = .ok b L1 ∧ (b = false → Out ρ L1) ∧ (b = true → ∃ ρ2 L2 m', m' < m ∧ body ρ L1 = .nx ρ2 L2 ∧ I m' ρ2 L2)) :
    ∀ (n m : Nat) (ρ : Env') (L : Sto), m < n → I m ρ L → ∃ ρ' L', sWhileN t body n ρ L = .nx ρ' L' ∧ Out ρ' L'
  | 0, m, ρ, L, h, _ => absurd h (Nat.not_lt_zero _)
  | n + 1, m, ρ, L, h, hI => by
    obtain ⟨b, L1, e, h1, h2⟩ := step m ρ L hI
    unfold sWhileN
    rw [e, sBindB_ok]
    cases b with
    | false => exact ⟨ρ, L1, rfl, h1 rfl⟩
    | true =>
      obtain ⟨ρ2, L2, m', hm, eb, hI2⟩ := h2 rfl
      rw [if_pos rfl, eb]
      exact sWhile_inv I Out step n m' ρ2 L2 (by omega) hI2
end
/-! ### a comprehension's list -/
section
variable {it : IF} {tg : GF} {t : TF} {f : EF} {own : List Nat} {ρ : Env'} {L L1 L2 : Sto} {box : Bool}
theorem eLc_at {its : Its} {ds : List D} (hi : it ρ L = .ok its L1) (h : lcGo its.src tg t f (wipeE ρ own) its.ds [] L1 = .ok ds L2) : eLc box own it tg t f ρ L = lstOut box ds L2 := by
  unfold eLc; rw [hi]; dsimp only; rw [h]; rfl
theorem eLc_map {α : Type} (xs : List α) (enc : α → D) (y : α → D) {src : List (Nat × D)} (hi : it ρ L = .ok ⟨xs.map enc, src⟩ L1) (hs : srcOk L1 src) (hl : xs.length ≤ 16777216)
    (h : ∀ a ∈ xs, ∃ ρ1, tg (enc a) (wipeE ρ own) = some ρ1 ∧ f ρ1 L1 = .ok (y a) L1) : eLc box own it tg tTrue f ρ L = lstOut box (xs.map y) L1 := by
  refine eLc_at hi ?_
  have := lcGo_map (src := src) (tg := tg) (f := f) (ρ := wipeE ρ own) enc y hs xs [] (by simpa using hl) h
  simpa using this
theorem eLc_filter {α : Type} (xs : List α) (enc : α → D) (p : α → Bool) (y : α → D) {src : List (Nat × D)} (hi : it ρ L = .ok ⟨xs.map enc, src⟩ L1) (hs : srcOk L1 src) (hl : xs.length ≤ 16777216)
    (h : ∀ a ∈ xs, ∃ ρ1, tg (enc a) (wipeE ρ own) = some ρ1 ∧ t ρ1 L1 = .ok (p a) L1 ∧ (p a = true → f ρ1 L1 = .ok (y a) L1)) : eLc box own it tg t f ρ L = lstOut box ((xs.filter p).map y) L1 := by
  refine eLc_at hi ?_
  have := lcGo_pure (src := src) (tg := tg) (t := t) (f := f) (ρ := wipeE ρ own) enc p y hs xs [] (by simpa using hl) h
  simpa using this
theorem eLc_inv {α : Type} (xs : List α) (enc : α → D) (I : Sto → Prop) (P : α → D → Prop) {src : List (Nat × D)} (hi : it ρ L = .ok ⟨xs.map enc, src⟩ L1) (hs : ∀ L, I L → srcOk L src) (hl : xs.length ≤ 16777216) (h0 : I L1)
    (h : ∀ a ∈ xs, ∀ L, I L → ∃ ρ1 y L', tg (enc a) (wipeE ρ own) = some ρ1 ∧ f ρ1 L = .ok y L' ∧ I L' ∧ P a y) :
    ∃ ys L', eLc box own it tg tTrue f ρ L = lstOut box ys L' ∧ I L' ∧ ys.length = xs.length ∧ ∀ (i : Nat) a y, xs[i]? = some a → ys[i]? = some y → P a y := by
  obtain ⟨ys, L', e, h1, h2, h3⟩ := lcGo_inv (src := src) (tg := tg) (f := f) (ρ := wipeE ρ own) enc I P hs xs [] L1 h0 (by simpa using hl) h
  exact ⟨ys, L', eLc_at hi (by simpa using e), h1, h2, h3⟩
end
theorem gAll_map {α : Type} {L : Sto} (xs : List α) (p : α → Bool) : gAll [.lst (xs.map fun x => D.bl (p x))] L = .ok (.bl (xs.all p)) L := by
  have e : xs.map (fun x => D.bl (p x)) = (xs.map p).map D.bl := by rw [List.map_map]; rfl
  rw [e]
  unfold gAll
  simp only [sqlOf_lst, dBls_map]
  rw [List.all_map]; rfl
theorem gAny_map {α : Type} {L : Sto} (xs : List α) (p : α → Bool) : gAny [.lst (xs.map fun x => D.bl (p x))] L = .ok (.bl (xs.any p)) L := by
  have e : xs.map (fun x => D.bl (p x)) = (xs.map p).map D.bl := by rw [List.map_map]; rfl
  rw [e]
  unfold gAny
  simp only [sqlOf_lst, dBls_map]
  rw [List.any_map]; rfl
/-! ### == -/
mutual
def eqD : D → D → Bool
  | .non, .non => true
  | .bl a, .bl b => a == b
  | .bl a, .int j => (if a then 1 else 0) == j
  | .int i, .bl b => i == (if b then 1 else 0)
  | .int i, .int j => i == j
  | .str x, .str y => x == y
  | .tup xs, .tup ys => eqDL xs ys
  | .tg xs, .tup ys => eqDL xs ys
  | .tup xs, .tg ys => eqDL xs ys
  | .tg xs, .tg ys => eqDL xs ys
  | .lst xs, .lst ys => eqDL xs ys
  | .ro xs, .lst ys => eqDL xs ys
  | .lst xs, .ro ys => eqDL xs ys
  | .ro xs, .ro ys => eqDL xs ys
  | _, _ => false
def eqDL : List D → List D → Bool
  | [], [] => true
  | x :: xs, y :: ys => eqD x y && eqDL xs ys
  | _, _ => false
end
mutual
/-- data of at most so many levels -/
def okD : Nat → D → Bool
  | _, .non => true
  | _, .bl _ => true
  | _, .int _ => true
  | _, .str s => PyData.strOk s
  | n + 1, .tup xs => okDL n xs
  | n + 1, .tg xs => okDL n xs
  | n + 1, .lst xs => okDL n xs
  | n + 1, .ro xs => okDL n xs
  | _, _ => false
def okDL : Nat → List D → Bool
  | _, [] => true
  | n, x :: xs => okD n x && okDL n xs
end
theorem okDL_all {n : Nat} : ∀ {xs : List D}, okDL n xs = xs.all (okD n)
  | [] => rfl
  | x :: xs => by rw [okDL, okDL_all, List.all_cons]
theorem toPyL_cons {d : D} {ds : List D} {p : PyData} {ps : List PyData} (h1 : toPy d = some p) (h2 : toPyL ds = some ps) : toPyL (d :: ds) = some (p :: ps) := by simp only [toPyL, h1, h2]
theorem okL_py {n : Nat} (ih : ∀ d, okD n d = true → ∃ p, toPy d = some p ∧ p.canLay0 = true ∧ p.depth ≤ n + 1) : ∀ ds : List D, okDL n ds = true → ∃ ps, toPyL ds = some ps ∧ PyData.canLayAll0 ps = true ∧ PyData.depthAll ps ≤ n + 1
  | [], _ => ⟨[], rfl, rfl, by simp [PyData.depthAll]⟩
  | d :: ds, h => by
    rw [okDL] at h
    obtain ⟨p, h1, h2, h3⟩ := ih d (and2 h).1
    obtain ⟨ps, k1, k2, k3⟩ := okL_py ih ds (and2 h).2
    refine ⟨p :: ps, toPyL_cons h1 k1, and2' h2 k2, ?_⟩
    simp only [PyData.depthAll]
    omega
theorem ok_py : ∀ (n : Nat) (d : D), okD n d = true → ∃ p, toPy d = some p ∧ p.canLay0 = true ∧ p.depth ≤ n + 1 := by
  intro n
  induction n with
  | zero =>
    intro d h
    cases d <;> first
      | exact absurd h Bool.false_ne_true
      | exact ⟨_, rfl, rfl, by simp [PyData.depth]⟩
      | exact ⟨_, rfl, h, by simp [PyData.depth]⟩
  | succ n ih =>
    intro d h
    cases d <;> first
      | exact absurd h Bool.false_ne_true
      | exact ⟨_, rfl, rfl, by simp [PyData.depth]⟩
      | exact ⟨_, rfl, h, by simp [PyData.depth]⟩
      | (rename_i xs
         obtain ⟨ps, h1, h2, h3⟩ := okL_py ih xs h
         first
           | (refine ⟨.tuple ps, ?_, h2, ?_⟩
              · exact (congrArg (Option.map PyData.tuple) h1 : _)
              · simp only [PyData.depth]; omega)
           | (refine ⟨.list ps, ?_, h2, ?_⟩
              · exact (congrArg (Option.map PyData.list) h1 : _)
              · simp only [PyData.depth]; omega))
theorem eqL_py {n : Nat} (ih : ∀ d e p q, okD n d = true → toPy d = some p → toPy e = some q → PyData.eqv p q = eqD d e) : ∀ (ds es : List D) (ps qs : List PyData), okDL n ds = true → toPyL ds = some ps → toPyL es = some qs → PyData.eqvAll ps qs = eqDL ds es
  | [], es, ps, qs, _, h1, h2 => by
    cases h1
    cases es with
    | nil => cases h2; rfl
    | cons e es =>
      simp only [toPyL] at h2
      split at h2
      · cases h2; rfl
      · cases h2
  | d :: ds, es, ps, qs, h, h1, h2 => by
    rw [okDL] at h
    simp only [toPyL] at h1
    split at h1
    · rename_i p ps' hp hps
      cases h1
      cases es with
      | nil => cases h2; rfl
      | cons e es =>
        simp only [toPyL] at h2
        split at h2
        · rename_i q qs' hq hqs
          cases h2
          show (PyData.eqv p q && PyData.eqvAll ps' qs') = (eqD d e && eqDL ds es)
          rw [ih d e p q (and2 h).1 hp hq, eqL_py ih ds es ps' qs' (and2 h).2 hps hqs]
        · cases h2
    · cases h1
theorem eq_py : ∀ (n : Nat) (d e : D) (p q : PyData), okD n d = true → toPy d = some p → toPy e = some q → PyData.eqv p q = eqD d e := by
  have flat : ∀ (d e : D) (p q : PyData), (match d with | .tup _ => False | .tg _ => False | .lst _ => False | .ro _ => False | _ => True) → toPy d = some p → toPy e = some q → PyData.eqv p q = eqD d e := by
    intro d e p q hf h1 h2
    cases d <;> first
      | exact hf.elim
      | (cases h1
         cases e <;> first
           | (cases h2; rfl)
           | (obtain ⟨ps, _, rfl⟩ := Option.map_eq_some_iff.mp h2; rfl)
           | cases h2
         done)
      | (cases h1; done)
  intro n
  induction n with
  | zero =>
    intro d e p q h h1 h2
    cases d <;> first
      | exact absurd h Bool.false_ne_true
      | exact flat _ e p q True.intro h1 h2
  | succ n ih =>
    intro d e p q h h1 h2
    cases d <;> first
      | exact absurd h Bool.false_ne_true
      | exact flat _ e p q True.intro h1 h2
      | (obtain ⟨ps, k1, rfl⟩ := Option.map_eq_some_iff.mp h1
         cases e <;> first
           | (cases h2; rfl)
           | (obtain ⟨qs, k2, rfl⟩ := Option.map_eq_some_iff.mp h2
              first
                | exact eqL_py ih _ _ ps qs h k1 k2
                | rfl)
           | cases h2)
theorem gEqB_ev {L : Sto} {d e : D} (h1 : okD 60 (seen L d) = true) (h2 : okD 60 (seen L e) = true) : gEqB L d e = some (eqD (seen L d) (seen L e)) := by
  obtain ⟨p, a1, a2, a3⟩ := ok_py 60 _ h1
  obtain ⟨q, b1, b2, b3⟩ := ok_py 60 _ h2
  unfold gEqB
  rw [a1, b1]
  dsimp only
  have s1 : SeqAt.shaped p = true := and2' a2 (decide_eq_true (by omega))
  have s2 : SeqAt.shaped q = true := and2' b2 (decide_eq_true (by omega))
  rw [if_pos ⟨s1, s2⟩, eq_py 60 _ _ p q h1 a1 b1]
theorem gEq_ev {L : Sto} {d e : D} (h1 : okD 60 (seen L d) = true) (h2 : okD 60 (seen L e) = true) : gEq d e L = .ok (.bl (eqD (seen L d) (seen L e))) L := by unfold gEq; rw [gEqB_ev h1 h2]
theorem gNe_ev {L : Sto} {d e : D} (h1 : okD 60 (seen L d) = true) (h2 : okD 60 (seen L e) = true) : gNe d e L = .ok (.bl (!eqD (seen L d) (seen L e))) L := by unfold gNe; rw [gEqB_ev h1 h2]
theorem okDL_ints (n : Nat) : ∀ r : List Int, okDL n (r.map .int) = true
  | [] => by simp [okDL]
  | x :: r => by
    rw [List.map_cons, okDL, okDL_ints n r]
    cases n <;> rfl
theorem eqDL_ints : ∀ r r' : List Int, eqDL (r.map .int) (r'.map .int) = decide (r = r')
  | [], [] => rfl
  | [], y :: r' => rfl
  | x :: r, [] => rfl
  | x :: r, y :: r' => by
    rw [List.map_cons, List.map_cons, eqDL, eqDL_ints r r']
    show ((x == y) && decide (r = r')) = _
    by_cases h : x = y
    · subst h; simp
    · simp [h]
/-! ### what a def leaves -/
theorem frz_loc {L1 : Sto} {n m : Nat} {c : D} (hm : n ≤ m) (hc : L1[m]? = some c) (hb : c.bel n = true) : frz L1 n 12 (.loc m) = some c := by
  have e : D.bel n (.loc m) = false := decide_eq_false (by omega)
  unfold frz
  rw [e, if_neg (by decide)]
  dsimp only
  rw [hc]
  exact frz_bel hb
theorem drop_last {L : Sto} {c : D} (hb : c.bel L.length = true) : dropR L (.ok (.loc L.length) (L ++ [c])) = .ok c L := by
  have ht : TakeOk L (L ++ [c]) := ⟨by simp, fun n x hn h => .inl (by rwa [List.getElem?_append_left hn] at h)⟩
  rw [dropR_ok ht (frz_loc (Nat.le_refl _) (by simp) hb)]
  simp
theorem drop_val {L L1 : Sto} {d : D} (ht : TakeOk L L1) (hb : d.bel L.length = true) : dropR L (.ok d L1) = .ok d (L1.take L.length) := dropR_ok ht (frz_bel hb)
theorem belL_ints (n : Nat) : ∀ r : List Int, belL n (r.map .int) = true
  | [] => rfl
  | x :: r => by rw [List.map_cons, belL, belL_ints n r]; rfl
theorem flat_rep {α : Type} (n : Nat) (x : α) : (List.replicate n [x]).flatten = List.replicate n x := by
  induction n with
  | zero => rfl
  | succ n ih => rw [List.replicate_succ, List.flatten_cons, ih, List.replicate_succ]; rfl
theorem takeOk_app {L : Sto} {cs : List D} : TakeOk L (L ++ cs) := ⟨by simp, fun n x hn h => .inl (by rwa [List.getElem?_append_left hn] at h)⟩
/-! ### comprehensions of several clauses worked out -/
section
variable {src : List (Nat × D)} {tg : GF} {t : TF} {f fk fv : EF} {step : CS} {ρ : Env'} {L : Sto}
theorem cGo_lst {α : Type} (enc : α → D) (ys : α → List D) (hs : srcOk L src) : ∀ (xs : List α) (acc : List D), acc.length + (xs.flatMap ys).length ≤ 16777216 →
    (∀ a ∈ xs, ∀ acc : List D, acc.length + (ys a).length ≤ 16777216 → ∃ ρ1, tg (enc a) ρ = some ρ1 ∧ step ρ1 (.lst acc) L = .ok (.lst (acc ++ ys a)) L) → cGo src tg tTrue step ρ (xs.map enc) (.lst acc) L = .ok (.lst (acc ++ xs.flatMap ys)) L
  | [], acc, _, _ => by simp [cGo]
  | a :: xs, acc, hl, h => by
    rw [List.flatMap_cons, List.length_append] at hl
    obtain ⟨ρ1, h1, h2⟩ := h a (List.mem_cons_self) acc (by omega)
    have hr := cGo_lst enc ys hs xs (acc ++ ys a) (by rw [List.length_append]; omega) fun b hb => h b (List.mem_cons_of_mem _ hb)
    rw [List.map_cons, cGo]
    simp only [h1, tTrue, h2, if_pos hs]
    rw [hr, List.flatMap_cons, List.append_assoc]
theorem length_putD {κ : Type} [DecidableEq κ] (kvs : List (κ × D)) (k : κ) (v : D) : (putD kvs k v).length ≤ kvs.length + 1 := by
  unfold putD
  split
  · rw [List.length_map]; omega
  · rw [List.length_append]; simp
theorem length_mergeD : ∀ (more kvs : List (Key × D)), (mergeD kvs more).length ≤ kvs.length + more.length
  | [], kvs => Nat.le_refl _
  | m :: more, kvs => by
    show (mergeD (putD kvs m.1 m.2) more).length ≤ _
    have h1 := length_mergeD more (putD kvs m.1 m.2)
    have h2 := length_putD kvs m.1 m.2
    rw [List.length_cons]
    omega
theorem mergeD_append (kvs a b : List (Key × D)) : mergeD kvs (a ++ b) = mergeD (mergeD kvs a) b := List.foldl_append
theorem cGo_dict {α : Type} (enc : α → D) (ps : α → List (Key × D)) (hs : srcOk L src) : ∀ (xs : List α) (kvs : List (Key × D)), kvs.length + (xs.flatMap ps).length ≤ 16777216 →
    (∀ a ∈ xs, ∀ kvs : List (Key × D), kvs.length + (ps a).length ≤ 16777216 → ∃ ρ1, tg (enc a) ρ = some ρ1 ∧ step ρ1 (.dK kvs) L = .ok (.dK (mergeD kvs (ps a))) L) → cGo src tg tTrue step ρ (xs.map enc) (.dK kvs) L = .ok (.dK (mergeD kvs (xs.flatMap ps))) L
  | [], kvs, _, _ => by simp [cGo, mergeD]
  | a :: xs, kvs, hl, h => by
    rw [List.flatMap_cons, List.length_append] at hl
    obtain ⟨ρ1, h1, h2⟩ := h a (List.mem_cons_self) kvs (by omega)
    have hm := length_mergeD (ps a) kvs
    have hr := cGo_dict enc ps hs xs (mergeD kvs (ps a)) (by omega) fun b hb => h b (List.mem_cons_of_mem _ hb)
    rw [List.map_cons, cGo]
    simp only [h1, tTrue, h2, if_pos hs]
    rw [hr, List.flatMap_cons, mergeD_append]
theorem stepL_at {acc : List D} {y : D} (h : f ρ L = .ok y L) (hl : acc.length < 16777216) : stepL f ρ (.lst acc) L = .ok (.lst (acc ++ [y])) L := by
  unfold stepL
  simp only [h, if_pos hl]
theorem stepD_at {kvs : List (Key × D)} {k v : D} {key : Key} (h : fk ρ L = .ok k L) (hk : dKey k = some key) (hv : fv ρ L = .ok v L) (hl : kvs.length < 16777216) : stepD fk fv ρ (.dK kvs) L = .ok (.dK (putD kvs key v)) L := by
  unfold stepD
  simp only [h, hk, hv, if_pos hl]
theorem stepN_at {it : IF} {vs : List Nat} {its : Its} {c c' : D} (h : it ρ L = .ok its L) (hc : cGo its.src tg t step (wipeE ρ vs) its.ds c L = .ok c' L) : stepN it vs tg t step ρ c L = .ok c' L := by
  unfold stepN
  simp only [h, hc]
theorem eComp_at {it : IF} {own : List Nat} {its : Its} {c c' : D} {box : Bool} (h : it ρ L = .ok its L) (hc : cGo its.src tg t step (wipeE ρ own) its.ds c L = .ok c' L) : eComp box own c it tg t step ρ L = boxOut box c' L := by
  unfold eComp
  simp only [h, hc, Res.bind_ok]
end
/-! dicts whose keys are put once -/
theorem putD_new {κ : Type} [DecidableEq κ] {kvs : List (κ × D)} {k : κ} {v : D} (h : k ∉ kvs.map (·.1)) : putD kvs k v = kvs ++ [(k, v)] := by
  unfold putD
  rw [if_neg]
  intro e
  obtain ⟨x, hx, hk⟩ := List.any_eq_true.mp e
  exact h (List.mem_map.mpr ⟨x, hx, of_decide_eq_true hk⟩)
theorem mergeD_new : ∀ {more kvs : List (Key × D)}, ((kvs ++ more).map (·.1)).Nodup → mergeD kvs more = kvs ++ more
  | [], kvs, _ => by simp [mergeD]
  | (k, v) :: more, kvs, h => by
    show mergeD (putD kvs k v) more = _
    have hk : k ∉ kvs.map (·.1) := fun hm => by
      rw [List.map_append, List.nodup_append] at h
      exact h.2.2 k hm k (by simp) rfl
    rw [putD_new hk, mergeD_new (by rw [List.append_assoc]; exact h), List.append_assoc]
    rfl
theorem valD_mem : ∀ {kvs : List (Key × D)} {k : Key} {v : D}, (kvs.map (·.1)).Nodup → (k, v) ∈ kvs → valD kvs k = some v
  | (k', v') :: kvs, k, v, h, hm => by
    rw [List.map_cons, List.nodup_cons] at h
    unfold valD
    rw [List.find?_cons]
    rcases List.mem_cons.mp hm with e | e
    · cases e; simp
    · have : k' ≠ k := fun z => h.1 (by rw [z]; exact List.mem_map.mpr ⟨(k, v), e, rfl⟩)
      simp only [this, decide_false]
      exact valD_mem h.2 e
end DS
set_option Elab.async false
set_option linter.all false
set_option maxRecDepth 100000
set_option maxHeartbeats 4000000
namespace DS
open PySem PySem.Spec L2
open PyProof.Rows hiding St

/-! ### the law's call -/
def CXA (P : Program) : CXT := fun outer H s E u s' => ∃ w, L2.CX P w outer H s E u s'
theorem cxa_none {P : Program} (H : Hp) (s : Shared) (e : Value) (s' : Shared) (h : CXA P [] H s (fun _ _ _ => False) e s') : False := by
  obtain ⟨w, a, B, H', cls, d, _, _, _, _, _, _, _, h⟩ := h
  exact h
theorem fnOk_any {P : Program} {w : World} {K : PySem.W.Frag} {mg : Str → Option Value} {base : Heap} {k : Nat} {f : Addr} {fd : FuncData} {ps : List Str} {sp sp' : Sp} (F : FnOk P w K mg base (L2.CX P w) k f fd ps sp) (h : ∀ vs H Q E, sp' vs H Q E → sp vs H Q E) :
    FnOk P w K mg base (CXA P) k f fd ps sp' := ⟨fun vs H Q E q => F.len vs H Q E (h vs H Q E q), fun A outer s H args us vs Q E hr e0 hb r q => codeAny_mono (F.run A outer s H args us vs Q E hr e0 hb r (h vs H Q E q)) fun r s' hq => by
  cases r with
  | ok fl => cases fl <;> exact hq
  | error e => exact ⟨w, hq⟩⟩
theorem law_sp {G : Gb} {m : List D → Sto → Res D} {ns : List Int} {H : Hp} {a : Addr} (hS : SqL G.K H a (ns.map V.int)) (ht : ∃ L, m [.ro (ns.map .int)] [] = .ok (.bl true) L) : spD G 1 m [.ref a] H (fun v _ => v = .bl true) (fun _ _ _ => False) := by
  obtain ⟨L, e⟩ := ht
  refine ⟨rfl, ⟨H, [], fun _ => none⟩, [], [.ro (ns.map .int)], ⟨fun _ _ e => e, rfl, List.nodup_nil, (fun _ h => nomatch h), (fun n a c h => ?_), (fun _ _ h => nomatch h)⟩, .cons (.ro hS (.of_ints ns)) .nil, ?_⟩
  · simp at h
  · rw [e]
    intro w' H' v _ _ d
    cases d
    rfl
end DS
set_option Elab.async false
set_option linter.all false
set_option maxRecDepth 100000
set_option maxHeartbeats 4000000
namespace DS
open PySem PySem.Spec L2
open PyProof.Rows hiding St

/-! ### steps, one behind the other -/
section
variable {ρ ρ1 : Env'} {L L1 L2 : Sto} {d e v : D} {r : SRes} {q : Res D} {f g : SF} {t u : TF} {fa fb : EF} {fl : AF} {ds : List D} {i n N : Nat} {b : Bool}
theorem ev_seq (h : f ρ L = .nx ρ1 L1) (k : g ρ1 L1 = r) : sSeq f g ρ L = r := by unfold sSeq; rw [h]; exact k
theorem ev_seqR (h : f ρ L = .rt d L1) : sSeq f g ρ L = .rt d L1 := by unfold sSeq; rw [h]
theorem ev_if_t (h : t ρ L = .ok true L1) (k : f ρ L1 = r) : sIf t f g ρ L = r := by unfold sIf; rw [h]; exact k
theorem ev_if_f (h : t ρ L = .ok false L1) (k : g ρ L1 = r) : sIf t f g ρ L = r := by unfold sIf; rw [h]; exact k
theorem ev_skip (h : t ρ L = .ok false L1) : sIf t f sSkip ρ L = .nx ρ L1 := ev_if_f h rfl
theorem ev_set (h : fa ρ L = .ok d L1) : sSet i fa ρ L = .nx (ρ.set i (some d)) L1 := by unfold sSet; rw [h]; rfl
theorem ev_ret (h : fa ρ L = .ok d L1) : sRet fa ρ L = .rt d L1 := by unfold sRet; rw [h]; rfl
theorem ev_expr (h : fa ρ L = .ok d L1) : sExpr fa ρ L = .nx ρ L1 := by unfold sExpr; rw [h]; rfl
theorem ev_m {F : SF} (h : F (startE N ds) L = .rt d L1) : mOf N F ds L = .ok d L1 := by unfold mOf; rw [h]; rfl
theorem ev_mN {F : SF} (h : F (startE N ds) L = .nx ρ1 L1) : mOf N F ds L = .ok .non L1 := by unfold mOf; rw [h]; rfl
theorem ev_var (h : ρ[i]? = some (some d)) : eVar i ρ L = .ok d L := by unfold eVar; rw [h]
theorem ev_e2 {k : D → D → Sto → Res D} (h : fa ρ L = .ok d L1) (h2 : fb ρ L1 = .ok e L2) : e2 k fa fb ρ L = k d e L2 := by unfold e2; rw [h, Res.bind_ok, h2, Res.bind_ok]
theorem ev_en {k : List D → Sto → Res D} (h : fl ρ L = .ok ds L1) : en k fl ρ L = k ds L1 := by unfold en; rw [h]; rfl
theorem ev_nil : aNil ρ L = .ok [] L := rfl
theorem ev_cons (h : fa ρ L = .ok d L1) (h2 : fl ρ L1 = .ok ds L2) : aCons fa fl ρ L = .ok (d :: ds) L2 := by unfold aCons; rw [h, Res.bind_ok, h2]; rfl
theorem ev_one (h : fa ρ L = .ok d L1) : aCons fa aNil ρ L = .ok [d] L1 := ev_cons h rfl
theorem ev_call {m : List D → Sto → Res D} (h : fl ρ L = .ok ds L1) (hn : ds.length = n) : eCall n m [] fl ρ L = m ds L1 := by
  unfold eCall; rw [h]; dsimp only [Res.bind]; rw [List.append_nil, if_pos hn]
theorem ev_not (h : t ρ L = .ok b L1) : tNotF t ρ L = .ok (!b) L1 := by unfold tNotF; rw [h]; rfl
theorem ev_tru (h : fa ρ L = .ok (.bl b) L1) : tTru fa ρ L = .ok b L1 := by unfold tTru; rw [h]; rfl
theorem ev_or_f (h : t ρ L = .ok false L1) (h2 : u ρ L1 = .ok b L2) : tOrF t u ρ L = .ok b L2 := by unfold tOrF; rw [h]; exact h2
theorem ev_or_t (h : t ρ L = .ok true L1) : tOrF t u ρ L = .ok true L1 := by unfold tOrF; rw [h]; rfl
theorem ev_and_t (h : fa ρ L = .ok (.bl true) L1) (h2 : fb ρ L1 = q) : eAndF fa fb ρ L = q := by unfold eAndF; rw [h]; exact h2
theorem ev_lst (h : fl ρ L = .ok ds L1) (hl : ds.length ≤ 16777216) : eLst false fl ρ L = .ok (.lst ds) L1 := by unfold eLst; rw [h]; dsimp only [Res.bind]; rw [if_pos hl]; rfl
theorem ev_tupG (h : fl ρ L = .ok ds L1) (hl : ds.length ≤ 16777216) : eTupG fl ρ L = .ok (.tg ds) L1 := by unfold eTupG newTG; rw [h]; dsimp only [Res.bind]; rw [if_pos hl]
theorem rangeD_nat (j : Nat) : rangeD 0 j = (List.range j).map fun (i : Nat) => D.int (i : Int) := by
  unfold rangeD
  exact List.map_congr_left fun i _ => by rw [Int.zero_add]
theorem ev_rg1 {k : List D → Sto → Res D} {j : Nat} (h : fa ρ L = .ok (.int (j : Int)) L1) (hr : rgOk 0 (j : Int) = true) : eRange1 fa k ρ L = k ((List.range j).map fun (i : Nat) => D.int (i : Int)) L1 := by
  have e : eRange1 fa k ρ L = if rgOk 0 (j : Int) = true then k (rangeD 0 ((j : Int) - 0).toNat) L1 else .bad := by
    unfold eRange1
    rw [h]
    exact Res.bind_ok _ _ _
  have e2 : ((j : Int) - 0).toNat = j := by omega
  rw [e, if_pos hr, e2, rangeD_nat]
theorem ev_asB (h : fa ρ L = .ok (.bl b) L1) : asB (fa ρ L) = .ok b L1 := by rw [h]; rfl
end
end DS
set_option Elab.async false
set_option linter.all false
set_option maxRecDepth 100000
set_option maxHeartbeats 4000000
namespace DS
open PySem PySem.Spec L2
open PyProof.Rows hiding St

def top (i : Nat) : Stmt := PySem.Challenge.pw_levelhues_k01_rows_sizes_and_classes.main.body.getD i (.Pass ⟨0, 0, 0, 0⟩)
/-! ### what is known of the program -/
abbrev s_l_dice : Stmt := top 31
abbrev s_is_integer : Stmt := top 7
abbrev s_is_row : Stmt := top 10
abbrev s_require_row : Stmt := top 11
abbrev s_require_hues : Stmt := top 12
abbrev s_require_below : Stmt := top 13
abbrev s_require_both : Stmt := top 14
abbrev s_sizes_in : Stmt := top 15
abbrev s_sizes : Stmt := top 19
abbrev s_is_level : Stmt := top 21
abbrev s_level_sizes_in : Stmt := top 17
abbrev s_level_sizes : Stmt := top 25
abbrev s_is_ascending : Stmt := top 8
abbrev s_are_places : Stmt := top 9
abbrev s_are_parts : Stmt := top 23
abbrev s_row_of : Stmt := top 24
abbrev s_renamed_in : Stmt := top 18
abbrev s_renamed : Stmt := top 28
abbrev s_are_alike : Stmt := top 29
abbrev s_l_roll : Stmt := top 32
abbrev s_l_one_of : Stmt := top 33
abbrev s_l_drawn_row : Stmt := top 37
abbrev s_l_mixed : Stmt := top 34
abbrev s_l_counts : Stmt := top 35
abbrev s_classes_in : Stmt := top 16
abbrev s_classes : Stmt := top 22
abbrev s_spread : Stmt := top 20
abbrev s_l_level_counts : Stmt := top 36
abbrev s_l_counts_right : Stmt := top 39
abbrev s_require_hue : Stmt := top 26
abbrev s_exchanged : Stmt := top 27
abbrev s_l_named : Stmt := top 38
abbrev s_l_right : Stmt := top 40
abbrev s_law : Stmt := top 41
abbrev FnD (G : Gb) (x : Str) (st : Stmt) : Prop := ∃ (f : Addr) (fd : FuncData), FunD G.K x x (defArgs st) (defBody st) (defScope st) [] [] f fd ∧ G.mg x = some (.ref f)
structure Facts (G : Gb) : Prop where
  bl : Bl G
  c_MOST_PLACES : ∃ u, G.mg "MOST_PLACES" = some u ∧ RelV (.int 20) u
  f_l_dice : FnD G "_law_dice" s_l_dice
  f_is_integer : FnD G "is_integer" s_is_integer
  f_is_row : FnD G "is_row" s_is_row
  f_require_row : FnD G "require_row" s_require_row
  f_require_hues : FnD G "require_hues" s_require_hues
  f_require_below : FnD G "require_below" s_require_below
  f_require_both : FnD G "require_both" s_require_both
  f_sizes_in : FnD G "sizes_in" s_sizes_in
  f_sizes : FnD G "sizes" s_sizes
  f_is_level : FnD G "is_level" s_is_level
  f_level_sizes_in : FnD G "level_sizes_in" s_level_sizes_in
  f_level_sizes : FnD G "level_sizes" s_level_sizes
  f_is_ascending : FnD G "is_ascending" s_is_ascending
  f_are_places : FnD G "are_places" s_are_places
  f_are_parts : FnD G "are_parts" s_are_parts
  f_row_of : FnD G "row_of" s_row_of
  f_renamed_in : FnD G "renamed_in" s_renamed_in
  f_renamed : FnD G "renamed" s_renamed
  f_are_alike : FnD G "are_alike" s_are_alike
  f_l_roll : FnD G "_law_roll" s_l_roll
  f_l_one_of : FnD G "_law_one_of" s_l_one_of
  f_l_drawn_row : FnD G "_law_drawn_row" s_l_drawn_row
  f_l_mixed : FnD G "_law_mixed" s_l_mixed
  f_l_counts : FnD G "_law_counts" s_l_counts
  f_classes_in : FnD G "classes_in" s_classes_in
  f_classes : FnD G "classes" s_classes
  f_spread : FnD G "spread" s_spread
  f_l_level_counts : FnD G "_law_level_counts" s_l_level_counts
  f_l_counts_right : FnD G "_law_counts_right" s_l_counts_right
  f_require_hue : FnD G "require_hue" s_require_hue
  f_exchanged : FnD G "exchanged" s_exchanged
  f_l_named : FnD G "_law_named" s_l_named
  f_l_right : FnD G "_law_right" s_l_right
  f_law : FnD G "law" s_law

/-! _law_dice -/
def N_l_dice : List Str := ["_law_script", "_law_at", "_law_cell", "_law_great", "_law_left", "_law_mixed_here"]
theorem nd_l_dice : N_l_dice.Nodup := by decide +kernel
theorem sc_l_dice : FnScope N_l_dice ["_law_script", "_law_at"] (defScope s_l_dice) := ⟨rfl, rfl, rfl, nd_l_dice, rfl, by decide +kernel, by decide +kernel⟩
noncomputable def F_l_dice : SF :=
  (sSeq (sSet 2 (e2 gAdd (e2 gMul (eC (.int 71)) (eVar 1)) (eC (.int 43))))
    (sSeq (sIf (fun ρ L => asB ((e2 gLt (eVar 1) (en gLen (aCons (eVar 0) aNil))) ρ L))
    (sSet 2 (e2 gIx (eVar 0) (eVar 1)))
    sSkip)
    (sSeq (sSet 3 (e2 gMod (en gInt (aCons (en gAbs (aCons (eVar 2) aNil)) aNil)) (e2 gPow (e2 gPow (eC (.int 10)) (eC (.int 60))) (eC (.int 10)))))
    (sSeq (sSet 4 (e2 gDiv (eVar 3) (e2 gPow (eC (.int 10)) (eC (.int 18)))))
    (sSeq (sSet 5 (e2 gAdd (e2 gAdd (e2 gAdd (e2 gMul (e2 gMod (eVar 3) (eC (.int 2147483179))) (eC (.int 57037))) (e2 gMul (eC (.int 3217)) (eVar 1))) (e2 gMul (eC (.int 53)) (en gInt (aCons (e2 gLt (eVar 2) (eC (.int 0))) aNil)))) (eC (.int 101))))
    (sRet (eLst true (aCons (eVar 4) (aCons (e2 gMod (eVar 5) (eC (.int 2147483123))) (aCons (eC (.int 0)) aNil))))))))))
noncomputable def m_l_dice : List D → Sto → Res D := mOf 6 F_l_dice
theorem d_l_dice {G : Gb} (D : Facts G) (W : WX) : SSs ⟨G, N_l_dice, defScope s_l_dice, fun _ => true, 0⟩ W (defBody s_l_dice) F_l_dice :=
  (ss_cons (ss_set 2 nd_l_dice (se_add (se_mul se_int (se_var 1)) se_int))
    (ss_cons (ss_if (st_lt (se_var 1) (se_len D.bl (sa_cons (se_var 0) sa_nil)))
    (ss_one (ss_set 2 nd_l_dice (se_ix (se_var 0) (se_var 1))))
    ss_nil)
    (ss_cons (ss_set 3 nd_l_dice (se_mod (se_int1 D.bl (sa_cons (se_abs D.bl (sa_cons (se_var 2) sa_nil)) sa_nil)) (se_pow (se_pow se_int se_int) se_int)))
    (ss_cons (ss_set 4 nd_l_dice (se_div (se_var 3) (se_pow se_int se_int)))
    (ss_cons (ss_set 5 nd_l_dice (se_add (se_add (se_add (se_mul (se_mod (se_var 3) se_int) se_int) (se_mul se_int (se_var 1))) (se_mul se_int (se_int1 D.bl (sa_cons (se_lt (se_var 2) se_int) sa_nil)))) se_int))
    (ss_one (ss_ret (se_lst true (sa_cons (se_var 4) (sa_cons (se_mod (se_var 5) se_int) (sa_cons se_int sa_nil)))))))))))
theorem fn_l_dice {G : Gb} (D : Facts G) : FnIs G "_law_dice" 2 1 m_l_dice [] := by
  obtain ⟨f, fd, F, g⟩ := D.f_l_dice
  have b : Binds G.K fd ["_law_script", "_law_at"] [] := F.bindsN fun _ _ _ _ _ _ us hl => match us, hl with | [_, _], _ => rfl
  exact fnIs_plain F sc_l_dice (d_l_dice D) g b .nil (fun _ => .nil)
/-! is_integer -/
def N_is_integer : List Str := ["value", "least", "most"]
theorem nd_is_integer : N_is_integer.Nodup := by decide +kernel
theorem sc_is_integer : FnScope N_is_integer ["value", "least", "most"] (defScope s_is_integer) := ⟨rfl, rfl, rfl, nd_is_integer, rfl, by decide +kernel, by decide +kernel⟩
noncomputable def F_is_integer : SF :=
  (sSeq (sIf (tOrF (tNotF (tTru (eIsi .int (eVar 0)))) (tOrF (tTru (eIsi .bl (eVar 0))) (fun ρ L => asB ((e2 gLt (eVar 0) (eVar 1)) ρ L))))
    (sRet (eC (.bl false)))
    sSkip)
    (sRet (eOrF (e2 gIsN (eVar 2) (eC .non)) (e2 gLe (eVar 0) (eVar 2)))))
noncomputable def m_is_integer : List D → Sto → Res D := mOf 3 F_is_integer
theorem d_is_integer {G : Gb} (D : Facts G) (W : WX) : SSs ⟨G, N_is_integer, defScope s_is_integer, fun _ => true, 0⟩ W (defBody s_is_integer) F_is_integer :=
  (ss_cons (ss_if (st_bool (sw_or (st_not (st_truth (se_isi .int D.bl D.bl.int (by decide +kernel) (se_var 0)))) (sw_or (st_truth (se_isi .bl D.bl D.bl.bool (by decide +kernel) (se_var 0))) (sw_one_or (st_lt (se_var 0) (se_var 1))))))
    (ss_one (ss_ret se_bl))
    ss_nil)
    (ss_one (ss_ret (se_or (se_isN (se_var 2) se_non) (se_one (se_le (se_var 0) (se_var 2)))))))
theorem fn_is_integer {G : Gb} (D : Facts G) : FnIs G "is_integer" 3 1 m_is_integer [] := by
  obtain ⟨f, fd, F, g⟩ := D.f_is_integer
  have b : Binds G.K fd ["value", "least", "most"] [] := F.bindsN fun _ _ _ _ _ _ us hl => match us, hl with | [_, _, _], _ => rfl
  exact fnIs_plain F sc_is_integer (d_is_integer D) g b .nil (fun _ => .nil)
/-! is_row -/
def N_is_row : List Str := ["value", "hue"]
theorem nd_is_row : N_is_row.Nodup := by decide +kernel
theorem sc_is_row : FnScope N_is_row ["value"] (defScope s_is_row) := ⟨rfl, rfl, rfl, nd_is_row, rfl, by decide +kernel, by decide +kernel⟩
noncomputable def C1_is_row : EF :=
  (eLc false [1] (iSeq (eVar 0)) (gSet 1) tTrue (eCall 3 m_is_integer [] (aCons (eVar 1) (aCons (eC (.int 0)) (aCons (eC .non) aNil)))))
noncomputable def F_is_row : SF :=
  (sSeq (sIf (tOrF (tNotF (tTru (eIsi .tup (eVar 0)))) (tNotF (fun ρ L => asB ((eChain gLe gLe (eC (.int 1)) (en gLen (aCons (eVar 0) aNil)) (eC (.int 20))) ρ L))))
    (sRet (eC (.bl false)))
    sSkip)
    (sRet (en gAll (aCons C1_is_row aNil))))
noncomputable def m_is_row : List D → Sto → Res D := mOf 2 F_is_row
theorem d_is_row {G : Gb} (D : Facts G) (W : WX) : SSs ⟨G, N_is_row, defScope s_is_row, fun _ => true, 1⟩ W (defBody s_is_row) F_is_row :=
  (ss_cons (ss_if (st_bool (sw_or (st_not (st_truth (se_isi .tup D.bl D.bl.tuple (by decide +kernel) (se_var 0)))) (sw_one_or (st_not (st_le_le se_int (se_len D.bl (sa_cons (se_var 0) sa_nil)) (se_cst D.c_MOST_PLACES (fun _ => by constructor)))))))
    (ss_one (ss_ret se_bl))
    ss_nil)
    (ss_one (ss_ret (se_all D.bl (sa_cons (se_lc false [("hue", 1)] nd_is_row (si_seq (se_var 0)) (by kernel_rfl) (sg_name 1 nd_is_row) sts_nil (se_call (fn_is_integer D) (Nat.le_of_ble_eq_true rfl) (sa_cons (se_var 1) (sa_cons se_int (sa_cons se_non sa_nil))))) sa_nil)))))
theorem fn_is_row {G : Gb} (D : Facts G) : FnIs G "is_row" 1 2 m_is_row [] := by
  obtain ⟨f, fd, F, g⟩ := D.f_is_row
  have b : Binds G.K fd ["value"] [] := F.bindsN fun _ _ _ _ _ _ us hl => match us, hl with | [_], _ => rfl
  exact fnIs_plain F sc_is_row (d_is_row D) g b .nil (fun _ => .nil)
/-! require_row -/
def N_require_row : List Str := ["value"]
theorem nd_require_row : N_require_row.Nodup := by decide +kernel
theorem sc_require_row : FnScope N_require_row ["value"] (defScope s_require_row) := ⟨rfl, rfl, rfl, nd_require_row, rfl, by decide +kernel, by decide +kernel⟩
noncomputable def F_require_row : SF :=
  (sIf (tNotF (tTru (eCall 1 m_is_row [] (aCons (eVar 0) aNil))))
    sNever
    sSkip)
noncomputable def m_require_row : List D → Sto → Res D := mOf 1 F_require_row
theorem d_require_row {G : Gb} (D : Facts G) (W : WX) : SSs ⟨G, N_require_row, defScope s_require_row, fun _ => true, 2⟩ W (defBody s_require_row) F_require_row :=
  (ss_one (ss_if (st_not (st_truth (se_call (fn_is_row D) (Nat.le_of_ble_eq_true rfl) (sa_cons (se_var 0) sa_nil))))
    (ss_one ss_never)
    ss_nil))
theorem fn_require_row {G : Gb} (D : Facts G) : FnIs G "require_row" 1 3 m_require_row [] := by
  obtain ⟨f, fd, F, g⟩ := D.f_require_row
  have b : Binds G.K fd ["value"] [] := F.bindsN fun _ _ _ _ _ _ us hl => match us, hl with | [_], _ => rfl
  exact fnIs_plain F sc_require_row (d_require_row D) g b .nil (fun _ => .nil)
/-! require_hues -/
def N_require_hues : List Str := ["hues"]
theorem nd_require_hues : N_require_hues.Nodup := by decide +kernel
theorem sc_require_hues : FnScope N_require_hues ["hues"] (defScope s_require_hues) := ⟨rfl, rfl, rfl, nd_require_hues, rfl, by decide +kernel, by decide +kernel⟩
noncomputable def F_require_hues : SF :=
  (sIf (tNotF (tTru (eCall 3 m_is_integer [] (aCons (eVar 0) (aCons (eC (.int 1)) (aCons (eC (.int 20)) aNil))))))
    sNever
    sSkip)
noncomputable def m_require_hues : List D → Sto → Res D := mOf 1 F_require_hues
theorem d_require_hues {G : Gb} (D : Facts G) (W : WX) : SSs ⟨G, N_require_hues, defScope s_require_hues, fun _ => true, 1⟩ W (defBody s_require_hues) F_require_hues :=
  (ss_one (ss_if (st_not (st_truth (se_call (fn_is_integer D) (Nat.le_of_ble_eq_true rfl) (sa_cons (se_var 0) (sa_cons se_int (sa_cons (se_cst D.c_MOST_PLACES (fun _ => by constructor)) sa_nil))))))
    (ss_one ss_never)
    ss_nil))
theorem fn_require_hues {G : Gb} (D : Facts G) : FnIs G "require_hues" 1 2 m_require_hues [] := by
  obtain ⟨f, fd, F, g⟩ := D.f_require_hues
  have b : Binds G.K fd ["hues"] [] := F.bindsN fun _ _ _ _ _ _ us hl => match us, hl with | [_], _ => rfl
  exact fnIs_plain F sc_require_hues (d_require_hues D) g b .nil (fun _ => .nil)
/-! require_below -/
def N_require_below : List Str := ["row", "hues", "hue"]
theorem nd_require_below : N_require_below.Nodup := by decide +kernel
theorem sc_require_below : FnScope N_require_below ["row", "hues"] (defScope s_require_below) := ⟨rfl, rfl, rfl, nd_require_below, rfl, by decide +kernel, by decide +kernel⟩
noncomputable def C1_require_below : EF :=
  (eLc false [2] (iSeq (eVar 0)) (gSet 2) tTrue (e2 gLt (eVar 2) (eVar 1)))
noncomputable def F_require_below : SF :=
  (sIf (tNotF (tTru (en gAll (aCons C1_require_below aNil))))
    sNever
    sSkip)
noncomputable def m_require_below : List D → Sto → Res D := mOf 3 F_require_below
theorem d_require_below {G : Gb} (D : Facts G) (W : WX) : SSs ⟨G, N_require_below, defScope s_require_below, fun _ => true, 0⟩ W (defBody s_require_below) F_require_below :=
  (ss_one (ss_if (st_not (st_truth (se_all D.bl (sa_cons (se_lc false [("hue", 2)] nd_require_below (si_seq (se_var 0)) (by kernel_rfl) (sg_name 2 nd_require_below) sts_nil (se_lt (se_var 2) (se_var 1))) sa_nil))))
    (ss_one ss_never)
    ss_nil))
theorem fn_require_below {G : Gb} (D : Facts G) : FnIs G "require_below" 2 1 m_require_below [] := by
  obtain ⟨f, fd, F, g⟩ := D.f_require_below
  have b : Binds G.K fd ["row", "hues"] [] := F.bindsN fun _ _ _ _ _ _ us hl => match us, hl with | [_, _], _ => rfl
  exact fnIs_plain F sc_require_below (d_require_below D) g b .nil (fun _ => .nil)
/-! require_both -/
def N_require_both : List Str := ["row", "hues"]
theorem nd_require_both : N_require_both.Nodup := by decide +kernel
theorem sc_require_both : FnScope N_require_both ["row", "hues"] (defScope s_require_both) := ⟨rfl, rfl, rfl, nd_require_both, rfl, by decide +kernel, by decide +kernel⟩
noncomputable def F_require_both : SF :=
  (sSeq (sExpr (eCall 1 m_require_row [] (aCons (eVar 0) aNil)))
    (sSeq (sExpr (eCall 1 m_require_hues [] (aCons (eVar 1) aNil)))
    (sExpr (eCall 2 m_require_below [] (aCons (eVar 0) (aCons (eVar 1) aNil))))))
noncomputable def m_require_both : List D → Sto → Res D := mOf 2 F_require_both
theorem d_require_both {G : Gb} (D : Facts G) (W : WX) : SSs ⟨G, N_require_both, defScope s_require_both, fun _ => true, 3⟩ W (defBody s_require_both) F_require_both :=
  (ss_cons (ss_expr (se_call (fn_require_row D) (Nat.le_of_ble_eq_true rfl) (sa_cons (se_var 0) sa_nil)))
    (ss_cons (ss_expr (se_call (fn_require_hues D) (Nat.le_of_ble_eq_true rfl) (sa_cons (se_var 1) sa_nil)))
    (ss_one (ss_expr (se_call (fn_require_below D) (Nat.le_of_ble_eq_true rfl) (sa_cons (se_var 0) (sa_cons (se_var 1) sa_nil)))))))
theorem fn_require_both {G : Gb} (D : Facts G) : FnIs G "require_both" 2 4 m_require_both [] := by
  obtain ⟨f, fd, F, g⟩ := D.f_require_both
  have b : Binds G.K fd ["row", "hues"] [] := F.bindsN fun _ _ _ _ _ _ us hl => match us, hl with | [_, _], _ => rfl
  exact fnIs_plain F sc_require_both (d_require_both D) g b .nil (fun _ => .nil)
/-! sizes_in -/
def N_sizes_in : List Str := ["row", "hues", "hue"]
theorem nd_sizes_in : N_sizes_in.Nodup := by decide +kernel
theorem sc_sizes_in : FnScope N_sizes_in ["row", "hues"] (defScope s_sizes_in) := ⟨rfl, rfl, rfl, nd_sizes_in, rfl, by decide +kernel, by decide +kernel⟩
noncomputable def C1_sizes_in : EF :=
  (eLc false [2] (iRange1 (aCons (eVar 1) aNil)) (gSet 2) tTrue (eCm gCount (eVar 0) (aCons (eVar 2) aNil)))
noncomputable def F_sizes_in : SF :=
  (sRet C1_sizes_in)
noncomputable def m_sizes_in : List D → Sto → Res D := mOf 3 F_sizes_in
theorem d_sizes_in {G : Gb} (D : Facts G) (W : WX) : SSs ⟨G, N_sizes_in, defScope s_sizes_in, fun _ => true, 0⟩ W (defBody s_sizes_in) F_sizes_in :=
  (ss_one (ss_ret (se_lc false [("hue", 2)] nd_sizes_in (si_range1 (sa_cons (se_var 1) sa_nil) rfl D.bl.range) (by kernel_rfl) (sg_name 2 nd_sizes_in) sts_nil (se_count (se_var 0) (sa_cons (se_var 2) sa_nil)))))
theorem fn_sizes_in {G : Gb} (D : Facts G) : FnIs G "sizes_in" 2 1 m_sizes_in [] := by
  obtain ⟨f, fd, F, g⟩ := D.f_sizes_in
  have b : Binds G.K fd ["row", "hues"] [] := F.bindsN fun _ _ _ _ _ _ us hl => match us, hl with | [_, _], _ => rfl
  exact fnIs_plain F sc_sizes_in (d_sizes_in D) g b .nil (fun _ => .nil)
/-! sizes -/
def N_sizes : List Str := ["row", "hues"]
theorem nd_sizes : N_sizes.Nodup := by decide +kernel
theorem sc_sizes : FnScope N_sizes ["row", "hues"] (defScope s_sizes) := ⟨rfl, rfl, rfl, nd_sizes, rfl, by decide +kernel, by decide +kernel⟩
noncomputable def F_sizes : SF :=
  (sSeq (sExpr (eCall 2 m_require_both [] (aCons (eVar 0) (aCons (eVar 1) aNil))))
    (sRet (en gTuple (aCons (eCall 2 m_sizes_in [] (aCons (eVar 0) (aCons (eVar 1) aNil))) aNil))))
noncomputable def m_sizes : List D → Sto → Res D := mOf 2 F_sizes
theorem d_sizes {G : Gb} (D : Facts G) (W : WX) : SSs ⟨G, N_sizes, defScope s_sizes, fun _ => true, 4⟩ W (defBody s_sizes) F_sizes :=
  (ss_cons (ss_expr (se_call (fn_require_both D) (Nat.le_of_ble_eq_true rfl) (sa_cons (se_var 0) (sa_cons (se_var 1) sa_nil))))
    (ss_one (ss_ret (se_tuple D.bl (sa_cons (se_call (fn_sizes_in D) (Nat.le_of_ble_eq_true rfl) (sa_cons (se_var 0) (sa_cons (se_var 1) sa_nil))) sa_nil)))))
theorem fn_sizes {G : Gb} (D : Facts G) : FnIs G "sizes" 2 5 m_sizes [] := by
  obtain ⟨f, fd, F, g⟩ := D.f_sizes
  have b : Binds G.K fd ["row", "hues"] [] := F.bindsN fun _ _ _ _ _ _ us hl => match us, hl with | [_, _], _ => rfl
  exact fnIs_plain F sc_sizes (d_sizes D) g b .nil (fun _ => .nil)
/-! is_level -/
def N_is_level : List Str := ["row", "hues"]
theorem nd_is_level : N_is_level.Nodup := by decide +kernel
theorem sc_is_level : FnScope N_is_level ["row", "hues"] (defScope s_is_level) := ⟨rfl, rfl, rfl, nd_is_level, rfl, by decide +kernel, by decide +kernel⟩
noncomputable def F_is_level : SF :=
  (sSeq (sExpr (eCall 2 m_require_both [] (aCons (eVar 0) (aCons (eVar 1) aNil))))
    (sRet (e2 gLt (e2 gSub (en gMax (aCons (eCall 2 m_sizes_in [] (aCons (eVar 0) (aCons (eVar 1) aNil))) aNil)) (en gMin (aCons (eCall 2 m_sizes_in [] (aCons (eVar 0) (aCons (eVar 1) aNil))) aNil))) (eC (.int 2)))))
noncomputable def m_is_level : List D → Sto → Res D := mOf 2 F_is_level
theorem d_is_level {G : Gb} (D : Facts G) (W : WX) : SSs ⟨G, N_is_level, defScope s_is_level, fun _ => true, 4⟩ W (defBody s_is_level) F_is_level :=
  (ss_cons (ss_expr (se_call (fn_require_both D) (Nat.le_of_ble_eq_true rfl) (sa_cons (se_var 0) (sa_cons (se_var 1) sa_nil))))
    (ss_one (ss_ret (se_lt (se_sub (se_max D.bl (sa_cons (se_call (fn_sizes_in D) (Nat.le_of_ble_eq_true rfl) (sa_cons (se_var 0) (sa_cons (se_var 1) sa_nil))) sa_nil)) (se_min D.bl (sa_cons (se_call (fn_sizes_in D) (Nat.le_of_ble_eq_true rfl) (sa_cons (se_var 0) (sa_cons (se_var 1) sa_nil))) sa_nil))) se_int))))
theorem fn_is_level {G : Gb} (D : Facts G) : FnIs G "is_level" 2 5 m_is_level [] := by
  obtain ⟨f, fd, F, g⟩ := D.f_is_level
  have b : Binds G.K fd ["row", "hues"] [] := F.bindsN fun _ _ _ _ _ _ us hl => match us, hl with | [_, _], _ => rfl
  exact fnIs_plain F sc_is_level (d_is_level D) g b .nil (fun _ => .nil)
/-! level_sizes_in -/
def N_level_sizes_in : List Str := ["size", "hues", "at"]
theorem nd_level_sizes_in : N_level_sizes_in.Nodup := by decide +kernel
theorem sc_level_sizes_in : FnScope N_level_sizes_in ["size", "hues"] (defScope s_level_sizes_in) := ⟨rfl, rfl, rfl, nd_level_sizes_in, rfl, by decide +kernel, by decide +kernel⟩
noncomputable def C1_level_sizes_in : EF :=
  (eLc false [2] (iRange1 (aCons (eVar 1) aNil)) (gSet 2) tTrue (e2 gAdd (e2 gDiv (eVar 0) (eVar 1)) (en gInt (aCons (e2 gLt (eVar 2) (e2 gMod (eVar 0) (eVar 1))) aNil))))
noncomputable def F_level_sizes_in : SF :=
  (sRet C1_level_sizes_in)
noncomputable def m_level_sizes_in : List D → Sto → Res D := mOf 3 F_level_sizes_in
theorem d_level_sizes_in {G : Gb} (D : Facts G) (W : WX) : SSs ⟨G, N_level_sizes_in, defScope s_level_sizes_in, fun _ => true, 0⟩ W (defBody s_level_sizes_in) F_level_sizes_in :=
  (ss_one (ss_ret (se_lc false [("at", 2)] nd_level_sizes_in (si_range1 (sa_cons (se_var 1) sa_nil) rfl D.bl.range) (by kernel_rfl) (sg_name 2 nd_level_sizes_in) sts_nil (se_add (se_div (se_var 0) (se_var 1)) (se_int1 D.bl (sa_cons (se_lt (se_var 2) (se_mod (se_var 0) (se_var 1))) sa_nil))))))
theorem fn_level_sizes_in {G : Gb} (D : Facts G) : FnIs G "level_sizes_in" 2 1 m_level_sizes_in [] := by
  obtain ⟨f, fd, F, g⟩ := D.f_level_sizes_in
  have b : Binds G.K fd ["size", "hues"] [] := F.bindsN fun _ _ _ _ _ _ us hl => match us, hl with | [_, _], _ => rfl
  exact fnIs_plain F sc_level_sizes_in (d_level_sizes_in D) g b .nil (fun _ => .nil)
/-! level_sizes -/
def N_level_sizes : List Str := ["size", "hues"]
theorem nd_level_sizes : N_level_sizes.Nodup := by decide +kernel
theorem sc_level_sizes : FnScope N_level_sizes ["size", "hues"] (defScope s_level_sizes) := ⟨rfl, rfl, rfl, nd_level_sizes, rfl, by decide +kernel, by decide +kernel⟩
noncomputable def F_level_sizes : SF :=
  (sSeq (sExpr (eCall 1 m_require_hues [] (aCons (eVar 0) aNil)))
    (sSeq (sExpr (eCall 1 m_require_hues [] (aCons (eVar 1) aNil)))
    (sRet (en gTuple (aCons (eCall 2 m_level_sizes_in [] (aCons (eVar 0) (aCons (eVar 1) aNil))) aNil)))))
noncomputable def m_level_sizes : List D → Sto → Res D := mOf 2 F_level_sizes
theorem d_level_sizes {G : Gb} (D : Facts G) (W : WX) : SSs ⟨G, N_level_sizes, defScope s_level_sizes, fun _ => true, 2⟩ W (defBody s_level_sizes) F_level_sizes :=
  (ss_cons (ss_expr (se_call (fn_require_hues D) (Nat.le_of_ble_eq_true rfl) (sa_cons (se_var 0) sa_nil)))
    (ss_cons (ss_expr (se_call (fn_require_hues D) (Nat.le_of_ble_eq_true rfl) (sa_cons (se_var 1) sa_nil)))
    (ss_one (ss_ret (se_tuple D.bl (sa_cons (se_call (fn_level_sizes_in D) (Nat.le_of_ble_eq_true rfl) (sa_cons (se_var 0) (sa_cons (se_var 1) sa_nil))) sa_nil))))))
theorem fn_level_sizes {G : Gb} (D : Facts G) : FnIs G "level_sizes" 2 3 m_level_sizes [] := by
  obtain ⟨f, fd, F, g⟩ := D.f_level_sizes
  have b : Binds G.K fd ["size", "hues"] [] := F.bindsN fun _ _ _ _ _ _ us hl => match us, hl with | [_, _], _ => rfl
  exact fnIs_plain F sc_level_sizes (d_level_sizes D) g b .nil (fun _ => .nil)
/-! is_ascending -/
def N_is_ascending : List Str := ["items", "one", "other"]
theorem nd_is_ascending : N_is_ascending.Nodup := by decide +kernel
theorem sc_is_ascending : FnScope N_is_ascending ["items"] (defScope s_is_ascending) := ⟨rfl, rfl, rfl, nd_is_ascending, rfl, by decide +kernel, by decide +kernel⟩
noncomputable def C1_is_ascending : EF :=
  (eLc false [1, 2] (iZipF (aCons (eVar 0) (aCons (eSl (eVar 0) (oSome (eC (.int 1))) oNone) aNil))) (gTupF 2 (gsCons (gSet 1) (gsCons (gSet 2) gsNil))) tTrue (e2 gLt (eVar 1) (eVar 2)))
noncomputable def F_is_ascending : SF :=
  (sRet (en gAll (aCons C1_is_ascending aNil)))
noncomputable def m_is_ascending : List D → Sto → Res D := mOf 3 F_is_ascending
theorem d_is_ascending {G : Gb} (D : Facts G) (W : WX) : SSs ⟨G, N_is_ascending, defScope s_is_ascending, fun _ => true, 0⟩ W (defBody s_is_ascending) F_is_ascending :=
  (ss_one (ss_ret (se_all D.bl (sa_cons (se_lc false [("one", 1), ("other", 2)] nd_is_ascending (si_zip (sa_cons (se_var 0) (sa_cons (se_sl (se_var 0) (so_some se_int) so_none) sa_nil)) rfl D.bl.zip) (by kernel_rfl) (sg_tup (sgs_cons (sg_name 1 nd_is_ascending) (sgs_cons (sg_name 2 nd_is_ascending) sgs_nil))) sts_nil (se_lt (se_var 1) (se_var 2))) sa_nil))))
theorem fn_is_ascending {G : Gb} (D : Facts G) : FnIs G "is_ascending" 1 1 m_is_ascending [] := by
  obtain ⟨f, fd, F, g⟩ := D.f_is_ascending
  have b : Binds G.K fd ["items"] [] := F.bindsN fun _ _ _ _ _ _ us hl => match us, hl with | [_], _ => rfl
  exact fnIs_plain F sc_is_ascending (d_is_ascending D) g b .nil (fun _ => .nil)
/-! are_places -/
def N_are_places : List Str := ["value", "size", "place"]
theorem nd_are_places : N_are_places.Nodup := by decide +kernel
theorem sc_are_places : FnScope N_are_places ["value", "size"] (defScope s_are_places) := ⟨rfl, rfl, rfl, nd_are_places, rfl, by decide +kernel, by decide +kernel⟩
noncomputable def C1_are_places : EF :=
  (eLc false [2] (iSeq (eVar 0)) (gSet 2) tTrue (eCall 3 m_is_integer [] (aCons (eVar 2) (aCons (eC (.int 0)) (aCons (e2 gSub (eVar 1) (eC (.int 1))) aNil)))))
noncomputable def F_are_places : SF :=
  (sSeq (sIf (tOrF (tNotF (tTru (eIsi .tup (eVar 0)))) (tNotF (tTru (en gAll (aCons C1_are_places aNil)))))
    (sRet (eC (.bl false)))
    sSkip)
    (sRet (eCall 1 m_is_ascending [] (aCons (eVar 0) aNil))))
noncomputable def m_are_places : List D → Sto → Res D := mOf 3 F_are_places
theorem d_are_places {G : Gb} (D : Facts G) (W : WX) : SSs ⟨G, N_are_places, defScope s_are_places, fun _ => true, 1⟩ W (defBody s_are_places) F_are_places :=
  (ss_cons (ss_if (st_bool (sw_or (st_not (st_truth (se_isi .tup D.bl D.bl.tuple (by decide +kernel) (se_var 0)))) (sw_one_or (st_not (st_truth (se_all D.bl (sa_cons (se_lc false [("place", 2)] nd_are_places (si_seq (se_var 0)) (by kernel_rfl) (sg_name 2 nd_are_places) sts_nil (se_call (fn_is_integer D) (Nat.le_of_ble_eq_true rfl) (sa_cons (se_var 2) (sa_cons se_int (sa_cons (se_sub (se_var 1) se_int) sa_nil))))) sa_nil)))))))
    (ss_one (ss_ret se_bl))
    ss_nil)
    (ss_one (ss_ret (se_call (fn_is_ascending D) (Nat.le_of_ble_eq_true rfl) (sa_cons (se_var 0) sa_nil)))))
theorem fn_are_places {G : Gb} (D : Facts G) : FnIs G "are_places" 2 2 m_are_places [] := by
  obtain ⟨f, fd, F, g⟩ := D.f_are_places
  have b : Binds G.K fd ["value", "size"] [] := F.bindsN fun _ _ _ _ _ _ us hl => match us, hl with | [_, _], _ => rfl
  exact fnIs_plain F sc_are_places (d_are_places D) g b .nil (fun _ => .nil)
/-! are_parts -/
def N_are_parts : List Str := ["value", "found", "places", "place"]
theorem nd_are_parts : N_are_parts.Nodup := by decide +kernel
theorem sc_are_parts : FnScope N_are_parts ["value"] (defScope s_are_parts) := ⟨rfl, rfl, rfl, nd_are_parts, rfl, by decide +kernel, by decide +kernel⟩
noncomputable def C1_are_parts : EF :=
  (eLc false [2] (iSeq (eVar 0)) (gSet 2) tTrue (eCall 2 m_are_places [] (aCons (eVar 2) (aCons (eC (.int 20)) aNil))))
noncomputable def C2_are_parts : EF :=
  (eComp false [2, 3] (.lst []) (iSeq (eVar 0)) (gSet 2) tTrue (stepN (iSeq (eVar 2)) [3] (gSet 3) tTrue (stepL (eVar 3))))
noncomputable def F_are_parts : SF :=
  (sSeq (sIf (tOrF (tNotF (tTru (eIsi .tup (eVar 0)))) (tNotF (fun ρ L => asB ((eChain gLe gLe (eC (.int 1)) (en gLen (aCons (eVar 0) aNil)) (eC (.int 20))) ρ L))))
    (sRet (eC (.bl false)))
    sSkip)
    (sSeq (sIf (tNotF (tTru (en gAll (aCons C1_are_parts aNil))))
    (sRet (eC (.bl false)))
    sSkip)
    (sSeq (sSet 1 (en (gSort false) (aCons C2_are_parts aNil)))
    (sRet (eAndF (e2 gNe (eVar 1) (eLst false aNil)) (e2 gEq (eVar 1) (eRange1 (en gLen (aCons (eVar 1) aNil)) (lstOut false))))))))
noncomputable def m_are_parts : List D → Sto → Res D := mOf 4 F_are_parts
theorem d_are_parts {G : Gb} (D : Facts G) (W : WX) : SSs ⟨G, N_are_parts, defScope s_are_parts, fun _ => true, 2⟩ W (defBody s_are_parts) F_are_parts :=
  (ss_cons (ss_if (st_bool (sw_or (st_not (st_truth (se_isi .tup D.bl D.bl.tuple (by decide +kernel) (se_var 0)))) (sw_one_or (st_not (st_le_le se_int (se_len D.bl (sa_cons (se_var 0) sa_nil)) (se_cst D.c_MOST_PLACES (fun _ => by constructor)))))))
    (ss_one (ss_ret se_bl))
    ss_nil)
    (ss_cons (ss_if (st_not (st_truth (se_all D.bl (sa_cons (se_lc false [("places", 2)] nd_are_parts (si_seq (se_var 0)) (by kernel_rfl) (sg_name 2 nd_are_parts) sts_nil (se_call (fn_are_places D) (Nat.le_of_ble_eq_true rfl) (sa_cons (se_var 2) (sa_cons (se_cst D.c_MOST_PLACES (fun _ => by constructor)) sa_nil)))) sa_nil))))
    (ss_one (ss_ret se_bl))
    ss_nil)
    (ss_cons (ss_set 1 nd_are_parts (se_sort false D.bl (sa_cons (se_lc2 false [("places", 2), ("place", 3)] [3] nd_are_parts (si_seq (se_var 0)) (by kernel_rfl) (by decide) (sg_name 2 nd_are_parts) sts_nil (si_seq (se_var 2)) (sg_name 3 nd_are_parts) sts_nil (se_var 3)) sa_nil)))
    (ss_one (ss_ret (se_and (se_ne (se_var 1) (se_lst false sa_nil)) (se_one (se_eq (se_var 1) (se_listRg1 false D.bl (se_len D.bl (sa_cons (se_var 1) sa_nil)))))))))))
theorem fn_are_parts {G : Gb} (D : Facts G) : FnIs G "are_parts" 1 3 m_are_parts [] := by
  obtain ⟨f, fd, F, g⟩ := D.f_are_parts
  have b : Binds G.K fd ["value"] [] := F.bindsN fun _ _ _ _ _ _ us hl => match us, hl with | [_], _ => rfl
  exact fnIs_plain F sc_are_parts (d_are_parts D) g b .nil (fun _ => .nil)
/-! row_of -/
def N_row_of : List Str := ["parts", "hues", "place", "hue", "places"]
theorem nd_row_of : N_row_of.Nodup := by decide +kernel
theorem sc_row_of : FnScope N_row_of ["parts"] (defScope s_row_of) := ⟨rfl, rfl, rfl, nd_row_of, rfl, by decide +kernel, by decide +kernel⟩
noncomputable def C1_row_of : EF :=
  (eComp false [3, 4, 2] (.dK []) (iEnumF (aCons (eVar 0) aNil)) (gTupF 2 (gsCons (gSet 3) (gsCons (gSet 4) gsNil))) tTrue (stepN (iSeq (eVar 4)) [2] (gSet 2) tTrue (stepD (eVar 2) (eVar 3))))
noncomputable def C2_row_of : EF :=
  (eLc false [2] (iRange1 (aCons (en gLen (aCons (eVar 1) aNil)) aNil)) (gSet 2) tTrue (e2 gIx (eVar 1) (eVar 2)))
noncomputable def F_row_of : SF :=
  (sSeq (sIf (tNotF (tTru (eCall 1 m_are_parts [] (aCons (eVar 0) aNil))))
    sNever
    sSkip)
    (sSeq (sSet 1 C1_row_of)
    (sRet (en gTuple (aCons C2_row_of aNil)))))
noncomputable def m_row_of : List D → Sto → Res D := mOf 5 F_row_of
theorem d_row_of {G : Gb} (D : Facts G) (W : WX) : SSs ⟨G, N_row_of, defScope s_row_of, fun _ => true, 3⟩ W (defBody s_row_of) F_row_of :=
  (ss_cons (ss_if (st_not (st_truth (se_call (fn_are_parts D) (Nat.le_of_ble_eq_true rfl) (sa_cons (se_var 0) sa_nil))))
    (ss_one ss_never)
    ss_nil)
    (ss_cons (ss_setN 1 nd_row_of (se_dc2 false [("hue", 3), ("places", 4), ("place", 2)] [2] nd_row_of (si_enum (sa_cons (se_var 0) sa_nil) rfl D.bl.enumerate) (by kernel_rfl) (by decide) (sg_tup (sgs_cons (sg_name 3 nd_row_of) (sgs_cons (sg_name 4 nd_row_of) sgs_nil))) sts_nil (si_seq (se_var 4)) (sg_name 2 nd_row_of) sts_nil (se_var 2) (se_var 3)))
    (ss_one (ss_ret (se_tuple D.bl (sa_cons (se_lc false [("place", 2)] nd_row_of (si_range1 (sa_cons (se_len D.bl (sa_cons (se_var 1) sa_nil)) sa_nil) rfl D.bl.range) (by kernel_rfl) (sg_name 2 nd_row_of) sts_nil (se_ix (se_var 1) (se_var 2))) sa_nil))))))
theorem fn_row_of {G : Gb} (D : Facts G) : FnIs G "row_of" 1 4 m_row_of [] := by
  obtain ⟨f, fd, F, g⟩ := D.f_row_of
  have b : Binds G.K fd ["parts"] [] := F.bindsN fun _ _ _ _ _ _ us hl => match us, hl with | [_], _ => rfl
  exact fnIs_plain F sc_row_of (d_row_of D) g b .nil (fun _ => .nil)
/-! renamed_in -/
def N_renamed_in : List Str := ["row", "numbers", "hue"]
theorem nd_renamed_in : N_renamed_in.Nodup := by decide +kernel
theorem sc_renamed_in : FnScope N_renamed_in ["row"] (defScope s_renamed_in) := ⟨rfl, rfl, rfl, nd_renamed_in, rfl, by decide +kernel, by decide +kernel⟩
noncomputable def L1_renamed_in : SF :=
  (sFor (iSeq (eVar 0)) (gSet 2)
    (sExpr (eSetd (eVar 1) (eVar 2) (en gLen (aCons (eVar 1) aNil)))))
noncomputable def C1_renamed_in : EF :=
  (eLc false [2] (iSeq (eVar 0)) (gSet 2) tTrue (e2 gIx (eVar 1) (eVar 2)))
noncomputable def F_renamed_in : SF :=
  (sSeq (sSet 1 (eDict0 true))
    (sSeq L1_renamed_in
    (sRet (en gTuple (aCons C1_renamed_in aNil)))))
noncomputable def m_renamed_in : List D → Sto → Res D := mDrop 3 F_renamed_in
theorem d_renamed_in {G : Gb} (D : Facts G) (W : WX) : SSs ⟨G, N_renamed_in, defScope s_renamed_in, fun _ => true, 0⟩ W (defBody s_renamed_in) F_renamed_in :=
  (ss_cons (ss_set 1 nd_renamed_in (se_dict0 true))
    (ss_cons (ss_for (own := [2]) (si_seq (se_var 0)) (sg_name 2 nd_renamed_in)
    (ss_one (ss_expr (se_setd (se_var 1) (se_var 2) (se_len D.bl (sa_cons (se_var 1) sa_nil))))))
    (ss_one (ss_ret (se_tuple D.bl (sa_cons (se_lc false [("hue", 2)] nd_renamed_in (si_seq (se_var 0)) (by kernel_rfl) (sg_name 2 nd_renamed_in) sts_nil (se_ix (se_var 1) (se_var 2))) sa_nil))))))
theorem fn_renamed_in {G : Gb} (D : Facts G) : FnIs G "renamed_in" 1 1 m_renamed_in [] := by
  obtain ⟨f, fd, F, g⟩ := D.f_renamed_in
  have b : Binds G.K fd ["row"] [] := F.bindsN fun _ _ _ _ _ _ us hl => match us, hl with | [_], _ => rfl
  exact fnIs_drop F sc_renamed_in (d_renamed_in D) g b .nil (fun _ => .nil)
/-! renamed -/
def N_renamed : List Str := ["row"]
theorem nd_renamed : N_renamed.Nodup := by decide +kernel
theorem sc_renamed : FnScope N_renamed ["row"] (defScope s_renamed) := ⟨rfl, rfl, rfl, nd_renamed, rfl, by decide +kernel, by decide +kernel⟩
noncomputable def F_renamed : SF :=
  (sSeq (sExpr (eCall 1 m_require_row [] (aCons (eVar 0) aNil)))
    (sRet (eCall 1 m_renamed_in [] (aCons (eVar 0) aNil))))
noncomputable def m_renamed : List D → Sto → Res D := mOf 1 F_renamed
theorem d_renamed {G : Gb} (D : Facts G) (W : WX) : SSs ⟨G, N_renamed, defScope s_renamed, fun _ => true, 3⟩ W (defBody s_renamed) F_renamed :=
  (ss_cons (ss_expr (se_call (fn_require_row D) (Nat.le_of_ble_eq_true rfl) (sa_cons (se_var 0) sa_nil)))
    (ss_one (ss_ret (se_call (fn_renamed_in D) (Nat.le_of_ble_eq_true rfl) (sa_cons (se_var 0) sa_nil)))))
theorem fn_renamed {G : Gb} (D : Facts G) : FnIs G "renamed" 1 4 m_renamed [] := by
  obtain ⟨f, fd, F, g⟩ := D.f_renamed
  have b : Binds G.K fd ["row"] [] := F.bindsN fun _ _ _ _ _ _ us hl => match us, hl with | [_], _ => rfl
  exact fnIs_plain F sc_renamed (d_renamed D) g b .nil (fun _ => .nil)
/-! are_alike -/
def N_are_alike : List Str := ["row", "other"]
theorem nd_are_alike : N_are_alike.Nodup := by decide +kernel
theorem sc_are_alike : FnScope N_are_alike ["row", "other"] (defScope s_are_alike) := ⟨rfl, rfl, rfl, nd_are_alike, rfl, by decide +kernel, by decide +kernel⟩
noncomputable def F_are_alike : SF :=
  (sSeq (sExpr (eCall 1 m_require_row [] (aCons (eVar 0) aNil)))
    (sSeq (sExpr (eCall 1 m_require_row [] (aCons (eVar 1) aNil)))
    (sSeq (sIf (fun ρ L => asB ((e2 gNe (en gLen (aCons (eVar 0) aNil)) (en gLen (aCons (eVar 1) aNil))) ρ L))
    sNever
    sSkip)
    (sRet (e2 gEq (eCall 1 m_renamed_in [] (aCons (eVar 0) aNil)) (eCall 1 m_renamed_in [] (aCons (eVar 1) aNil)))))))
noncomputable def m_are_alike : List D → Sto → Res D := mOf 2 F_are_alike
theorem d_are_alike {G : Gb} (D : Facts G) (W : WX) : SSs ⟨G, N_are_alike, defScope s_are_alike, fun _ => true, 3⟩ W (defBody s_are_alike) F_are_alike :=
  (ss_cons (ss_expr (se_call (fn_require_row D) (Nat.le_of_ble_eq_true rfl) (sa_cons (se_var 0) sa_nil)))
    (ss_cons (ss_expr (se_call (fn_require_row D) (Nat.le_of_ble_eq_true rfl) (sa_cons (se_var 1) sa_nil)))
    (ss_cons (ss_if (st_ne (se_len D.bl (sa_cons (se_var 0) sa_nil)) (se_len D.bl (sa_cons (se_var 1) sa_nil)))
    (ss_one ss_never)
    ss_nil)
    (ss_one (ss_ret (se_eq (se_call (fn_renamed_in D) (Nat.le_of_ble_eq_true rfl) (sa_cons (se_var 0) sa_nil)) (se_call (fn_renamed_in D) (Nat.le_of_ble_eq_true rfl) (sa_cons (se_var 1) sa_nil))))))))
theorem fn_are_alike {G : Gb} (D : Facts G) : FnIs G "are_alike" 2 4 m_are_alike [] := by
  obtain ⟨f, fd, F, g⟩ := D.f_are_alike
  have b : Binds G.K fd ["row", "other"] [] := F.bindsN fun _ _ _ _ _ _ us hl => match us, hl with | [_, _], _ => rfl
  exact fnIs_plain F sc_are_alike (d_are_alike D) g b .nil (fun _ => .nil)
/-! _law_roll -/
def N_l_roll : List Str := ["_law_dice_here", "_law_total", "_law_number", "_law_one", "_law_two", "_law_drawn"]
theorem nd_l_roll : N_l_roll.Nodup := by decide +kernel
theorem sc_l_roll : FnScope N_l_roll ["_law_dice_here", "_law_total"] (defScope s_l_roll) := ⟨rfl, rfl, rfl, nd_l_roll, rfl, by decide +kernel, by decide +kernel⟩
noncomputable def F_l_roll : SF :=
  (sSeq (sSet 2 (en gInt (aCons (eVar 1) aNil)))
    (sSeq (sIf (fun ρ L => asB ((e2 gGt (e2 gIx (eVar 0) (eC (.int 0))) (eC (.int 0))) ρ L))
    (sSeq (sSet 5 (e2 gMod (e2 gIx (eVar 0) (eC (.int 0))) (eVar 2)))
    (sSeq (sPut (e2 gDiv (e2 gIx (eVar 0) (eC (.int 0))) (eVar 2)) (eVar 0) (eC (.int 0)))
    (sRet (en gInt (aCons (eVar 5) aNil)))))
    sSkip)
    (sSeq (sPut (e2 gAdd (e2 gIx (eVar 0) (eC (.int 2))) (eC (.int 1))) (eVar 0) (eC (.int 2)))
    (sSeq (sSet 3 (e2 gMod (e2 gAdd (e2 gIx (eVar 0) (eC (.int 1))) (e2 gMul (eC (.int 1000171)) (e2 gIx (eVar 0) (eC (.int 2))))) (eC (.int 2305843009213693951))))
    (sSeq (sSet 4 (e2 gAdd (e2 gMul (e2 gMod (e2 gMul (eVar 3) (eVar 3)) (eC (.int 2305843009213693921))) (eVar 3)) (e2 gMul (eC (.int 9419)) (e2 gIx (eVar 0) (eC (.int 2))))))
    (sSeq (sSet 4 (e2 gMod (eVar 4) (eC (.int 2305843009213693907))))
    (sRet (en gInt (aCons (e2 gMod (e2 gDiv (eVar 4) (eC (.int 4096))) (eVar 2)) aNil)))))))))
noncomputable def m_l_roll : List D → Sto → Res D := mOf 6 F_l_roll
theorem d_l_roll {G : Gb} (D : Facts G) (W : WX) : SSs ⟨G, N_l_roll, defScope s_l_roll, fun _ => true, 0⟩ W (defBody s_l_roll) F_l_roll :=
  (ss_cons (ss_set 2 nd_l_roll (se_int1 D.bl (sa_cons (se_var 1) sa_nil)))
    (ss_cons (ss_if (st_gt (se_ix (se_var 0) se_int) se_int)
    (ss_cons (ss_set 5 nd_l_roll (se_mod (se_ix (se_var 0) se_int) (se_var 2)))
    (ss_cons (ss_put (se_div (se_ix (se_var 0) se_int) (se_var 2)) (se_var 0) se_int)
    (ss_one (ss_ret (se_int1 D.bl (sa_cons (se_var 5) sa_nil))))))
    ss_nil)
    (ss_cons (ss_put (se_add (se_ix (se_var 0) se_int) se_int) (se_var 0) se_int)
    (ss_cons (ss_set 3 nd_l_roll (se_mod (se_add (se_ix (se_var 0) se_int) (se_mul se_int (se_ix (se_var 0) se_int))) se_int))
    (ss_cons (ss_set 4 nd_l_roll (se_add (se_mul (se_mod (se_mul (se_var 3) (se_var 3)) se_int) (se_var 3)) (se_mul se_int (se_ix (se_var 0) se_int))))
    (ss_cons (ss_set 4 nd_l_roll (se_mod (se_var 4) se_int))
    (ss_one (ss_ret (se_int1 D.bl (sa_cons (se_mod (se_div (se_var 4) se_int) (se_var 2)) sa_nil))))))))))
theorem fn_l_roll {G : Gb} (D : Facts G) : FnIs G "_law_roll" 2 1 m_l_roll [] := by
  obtain ⟨f, fd, F, g⟩ := D.f_l_roll
  have b : Binds G.K fd ["_law_dice_here", "_law_total"] [] := F.bindsN fun _ _ _ _ _ _ us hl => match us, hl with | [_, _], _ => rfl
  exact fnIs_plain F sc_l_roll (d_l_roll D) g b .nil (fun _ => .nil)
/-! _law_one_of -/
def N_l_one_of : List Str := ["_law_dice_here", "_law_items"]
theorem nd_l_one_of : N_l_one_of.Nodup := by decide +kernel
theorem sc_l_one_of : FnScope N_l_one_of ["_law_dice_here", "_law_items"] (defScope s_l_one_of) := ⟨rfl, rfl, rfl, nd_l_one_of, rfl, by decide +kernel, by decide +kernel⟩
noncomputable def F_l_one_of : SF :=
  (sRet (e2 gIx (eVar 1) (eCall 2 m_l_roll [] (aCons (eVar 0) (aCons (en gLen (aCons (eVar 1) aNil)) aNil)))))
noncomputable def m_l_one_of : List D → Sto → Res D := mOf 2 F_l_one_of
theorem d_l_one_of {G : Gb} (D : Facts G) (W : WX) : SSs ⟨G, N_l_one_of, defScope s_l_one_of, fun _ => true, 1⟩ W (defBody s_l_one_of) F_l_one_of :=
  (ss_one (ss_ret (se_ix (se_var 1) (se_call (fn_l_roll D) (Nat.le_of_ble_eq_true rfl) (sa_cons (se_var 0) (sa_cons (se_len D.bl (sa_cons (se_var 1) sa_nil)) sa_nil))))))
theorem fn_l_one_of {G : Gb} (D : Facts G) : FnIs G "_law_one_of" 2 2 m_l_one_of [] := by
  obtain ⟨f, fd, F, g⟩ := D.f_l_one_of
  have b : Binds G.K fd ["_law_dice_here", "_law_items"] [] := F.bindsN fun _ _ _ _ _ _ us hl => match us, hl with | [_, _], _ => rfl
  exact fnIs_plain F sc_l_one_of (d_l_one_of D) g b .nil (fun _ => .nil)
/-! _law_drawn_row -/
def N_l_drawn_row : List Str := ["_law_dice_here", "_law_hues", "_law_few", "_law_place"]
theorem nd_l_drawn_row : N_l_drawn_row.Nodup := by decide +kernel
theorem sc_l_drawn_row : FnScope N_l_drawn_row ["_law_dice_here", "_law_hues"] (defScope s_l_drawn_row) := ⟨rfl, rfl, rfl, nd_l_drawn_row, rfl, by decide +kernel, by decide +kernel⟩
noncomputable def C1_l_drawn_row : EF :=
  (eLc false [3] (iRange1 (aCons (e2 gAdd (eC (.int 1)) (eCall 2 m_l_roll [] (aCons (eVar 0) (aCons (eC (.int 12)) aNil)))) aNil)) (gSet 3) tTrue (eCall 2 m_l_roll [] (aCons (eVar 0) (aCons (eCall 2 m_l_one_of [] (aCons (eVar 0) (aCons (eLst false (aCons (eVar 2) (aCons (eVar 1) aNil))) aNil))) aNil))))
noncomputable def F_l_drawn_row : SF :=
  (sSeq (sSet 2 (e2 gAdd (eC (.int 1)) (eCall 2 m_l_roll [] (aCons (eVar 0) (aCons (eVar 1) aNil)))))
    (sRet (en gTuple (aCons C1_l_drawn_row aNil))))
noncomputable def m_l_drawn_row : List D → Sto → Res D := mOf 4 F_l_drawn_row
theorem d_l_drawn_row {G : Gb} (D : Facts G) (W : WX) : SSs ⟨G, N_l_drawn_row, defScope s_l_drawn_row, fun _ => true, 2⟩ W (defBody s_l_drawn_row) F_l_drawn_row :=
  (ss_cons (ss_set 2 nd_l_drawn_row (se_add se_int (se_call (fn_l_roll D) (Nat.le_of_ble_eq_true rfl) (sa_cons (se_var 0) (sa_cons (se_var 1) sa_nil)))))
    (ss_one (ss_ret (se_tuple D.bl (sa_cons (se_lc false [("_law_place", 3)] nd_l_drawn_row (si_range1 (sa_cons (se_add se_int (se_call (fn_l_roll D) (Nat.le_of_ble_eq_true rfl) (sa_cons (se_var 0) (sa_cons se_int sa_nil)))) sa_nil) rfl D.bl.range) (by kernel_rfl) (sg_name 3 nd_l_drawn_row) sts_nil (se_call (fn_l_roll D) (Nat.le_of_ble_eq_true rfl) (sa_cons (se_var 0) (sa_cons (se_call (fn_l_one_of D) (Nat.le_of_ble_eq_true rfl) (sa_cons (se_var 0) (sa_cons (se_lst false (sa_cons (se_var 2) (sa_cons (se_var 1) sa_nil))) sa_nil))) sa_nil)))) sa_nil)))))
theorem fn_l_drawn_row {G : Gb} (D : Facts G) : FnIs G "_law_drawn_row" 2 3 m_l_drawn_row [] := by
  obtain ⟨f, fd, F, g⟩ := D.f_l_drawn_row
  have b : Binds G.K fd ["_law_dice_here", "_law_hues"] [] := F.bindsN fun _ _ _ _ _ _ us hl => match us, hl with | [_, _], _ => rfl
  exact fnIs_plain F sc_l_drawn_row (d_l_drawn_row D) g b .nil (fun _ => .nil)
/-! _law_mixed -/
def N_l_mixed : List Str := ["_law_dice_here", "_law_items", "_law_left", "_law_found"]
theorem nd_l_mixed : N_l_mixed.Nodup := by decide +kernel
theorem sc_l_mixed : FnScope N_l_mixed ["_law_dice_here", "_law_items"] (defScope s_l_mixed) := ⟨rfl, rfl, rfl, nd_l_mixed, rfl, by decide +kernel, by decide +kernel⟩
noncomputable def W1_l_mixed : SF :=
  (sWhileN (fun ρ L => asB ((e2 gNe (eVar 2) (eLst false aNil)) ρ L))
    (sExpr (eBm (eVar 3) (aCons (eBm (eVar 2) (aCons (eCall 2 m_l_roll [] (aCons (eVar 0) (aCons (en gLen (aCons (eVar 2) aNil)) aNil))) aNil) gPopAt) aNil) gAppend)) 20)
noncomputable def F_l_mixed : SF :=
  (sSeq (sPar 2 3 (aCons (en (gList true) (aCons (eVar 1) aNil)) (aCons (eLst true aNil) aNil)))
    (sSeq W1_l_mixed
    (sRet (eVar 3))))
noncomputable def m_l_mixed : List D → Sto → Res D := mDrop 4 F_l_mixed
theorem d_l_mixed {G : Gb} (D : Facts G) (W : WX) : SSs ⟨G, N_l_mixed, defScope s_l_mixed, fun _ => true, 1⟩ W (defBody s_l_mixed) F_l_mixed :=
  (ss_cons (ss_par 2 3 nd_l_mixed (sa_cons (se_list true D.bl (sa_cons (se_var 1) sa_nil)) (sa_cons (se_lst true sa_nil) sa_nil)))
    (ss_cons (ss_while 20 (st_ne (se_var 2) (se_lst false sa_nil))
    (ss_one (ss_expr (se_append (se_var 3) (sa_cons (se_popAt (se_var 2) (sa_cons (se_call (fn_l_roll D) (Nat.le_of_ble_eq_true rfl) (sa_cons (se_var 0) (sa_cons (se_len D.bl (sa_cons (se_var 2) sa_nil)) sa_nil))) sa_nil)) sa_nil)))))
    (ss_one (ss_ret (se_var 3)))))
theorem fn_l_mixed {G : Gb} (D : Facts G) : FnIs G "_law_mixed" 2 2 m_l_mixed [] := by
  obtain ⟨f, fd, F, g⟩ := D.f_l_mixed
  have b : Binds G.K fd ["_law_dice_here", "_law_items"] [] := F.bindsN fun _ _ _ _ _ _ us hl => match us, hl with | [_, _], _ => rfl
  exact fnIs_drop F sc_l_mixed (d_l_mixed D) g b .nil (fun _ => .nil)
/-! _law_counts -/
def N_l_counts : List Str := ["_law_hues", "_law_row", "_law_found", "_law_hue"]
theorem nd_l_counts : N_l_counts.Nodup := by decide +kernel
theorem sc_l_counts : FnScope N_l_counts ["_law_hues", "_law_row"] (defScope s_l_counts) := ⟨rfl, rfl, rfl, nd_l_counts, rfl, by decide +kernel, by decide +kernel⟩
noncomputable def L1_l_counts : SF :=
  (sFor (iSeq (eVar 1)) (gSet 3)
    (sPut (e2 gAdd (e2 gIx (eVar 2) (eVar 3)) (eC (.int 1))) (eVar 2) (eVar 3)))
noncomputable def F_l_counts : SF :=
  (sSeq (sSet 2 (e2 gMulB (eLst false (aCons (eC (.int 0)) aNil)) (eVar 0)))
    (sSeq L1_l_counts
    (sRet (eVar 2))))
noncomputable def m_l_counts : List D → Sto → Res D := mDrop 4 F_l_counts
theorem d_l_counts {G : Gb} (D : Facts G) (W : WX) : SSs ⟨G, N_l_counts, defScope s_l_counts, fun _ => true, 0⟩ W (defBody s_l_counts) F_l_counts :=
  (ss_cons (ss_set 2 nd_l_counts (se_mulB (se_lst false (sa_cons se_int sa_nil)) (se_var 0)))
    (ss_cons (ss_for (own := [3]) (si_seq (se_var 1)) (sg_name 3 nd_l_counts)
    (ss_one (ss_put (se_add (se_ix (se_var 2) (se_var 3)) se_int) (se_var 2) (se_var 3))))
    (ss_one (ss_ret (se_var 2)))))
theorem fn_l_counts {G : Gb} (D : Facts G) : FnIs G "_law_counts" 2 1 m_l_counts [] := by
  obtain ⟨f, fd, F, g⟩ := D.f_l_counts
  have b : Binds G.K fd ["_law_hues", "_law_row"] [] := F.bindsN fun _ _ _ _ _ _ us hl => match us, hl with | [_, _], _ => rfl
  exact fnIs_drop F sc_l_counts (d_l_counts D) g b .nil (fun _ => .nil)
/-! classes_in -/
def N_classes_in : List Str := ["row", "hues", "hue", "place", "own"]
theorem nd_classes_in : N_classes_in.Nodup := by decide +kernel
theorem sc_classes_in : FnScope N_classes_in ["row", "hues"] (defScope s_classes_in) := ⟨rfl, rfl, rfl, nd_classes_in, rfl, by decide +kernel, by decide +kernel⟩
noncomputable def C1_classes_in : EF :=
  (eLc false [3, 4] (iEnumF (aCons (eVar 0) aNil)) (gTupF 2 (gsCons (gSet 3) (gsCons (gSet 4) gsNil))) (fun ρ L => asB ((e2 gEq (eVar 4) (eVar 2)) ρ L)) (eVar 3))
noncomputable def C2_classes_in : EF :=
  (eLc false [2] (iRange1 (aCons (eVar 1) aNil)) (gSet 2) tTrue C1_classes_in)
noncomputable def F_classes_in : SF :=
  (sRet C2_classes_in)
noncomputable def m_classes_in : List D → Sto → Res D := mOf 5 F_classes_in
theorem d_classes_in {G : Gb} (D : Facts G) (W : WX) : SSs ⟨G, N_classes_in, defScope s_classes_in, fun _ => true, 0⟩ W (defBody s_classes_in) F_classes_in :=
  (ss_one (ss_ret (se_lc false [("hue", 2)] nd_classes_in (si_range1 (sa_cons (se_var 1) sa_nil) rfl D.bl.range) (by kernel_rfl) (sg_name 2 nd_classes_in) sts_nil (se_lc false [("place", 3), ("own", 4)] nd_classes_in (si_enum (sa_cons (se_var 0) sa_nil) rfl D.bl.enumerate) (by kernel_rfl) (sg_tup (sgs_cons (sg_name 3 nd_classes_in) (sgs_cons (sg_name 4 nd_classes_in) sgs_nil))) (sts_one (st_eq (se_var 4) (se_var 2))) (se_var 3)))))
theorem fn_classes_in {G : Gb} (D : Facts G) : FnIs G "classes_in" 2 1 m_classes_in [] := by
  obtain ⟨f, fd, F, g⟩ := D.f_classes_in
  have b : Binds G.K fd ["row", "hues"] [] := F.bindsN fun _ _ _ _ _ _ us hl => match us, hl with | [_, _], _ => rfl
  exact fnIs_plain F sc_classes_in (d_classes_in D) g b .nil (fun _ => .nil)
/-! classes -/
def N_classes : List Str := ["row", "hues", "places"]
theorem nd_classes : N_classes.Nodup := by decide +kernel
theorem sc_classes : FnScope N_classes ["row", "hues"] (defScope s_classes) := ⟨rfl, rfl, rfl, nd_classes, rfl, by decide +kernel, by decide +kernel⟩
noncomputable def C1_classes : EF :=
  (eLc false [2] (iSeq (eCall 2 m_classes_in [] (aCons (eVar 0) (aCons (eVar 1) aNil)))) (gSet 2) tTrue (en gTuple (aCons (eVar 2) aNil)))
noncomputable def F_classes : SF :=
  (sSeq (sExpr (eCall 2 m_require_both [] (aCons (eVar 0) (aCons (eVar 1) aNil))))
    (sRet (en gTuple (aCons C1_classes aNil))))
noncomputable def m_classes : List D → Sto → Res D := mOf 3 F_classes
theorem d_classes {G : Gb} (D : Facts G) (W : WX) : SSs ⟨G, N_classes, defScope s_classes, fun _ => true, 4⟩ W (defBody s_classes) F_classes :=
  (ss_cons (ss_expr (se_call (fn_require_both D) (Nat.le_of_ble_eq_true rfl) (sa_cons (se_var 0) (sa_cons (se_var 1) sa_nil))))
    (ss_one (ss_ret (se_tuple D.bl (sa_cons (se_lc false [("places", 2)] nd_classes (si_seq (se_call (fn_classes_in D) (Nat.le_of_ble_eq_true rfl) (sa_cons (se_var 0) (sa_cons (se_var 1) sa_nil)))) (by kernel_rfl) (sg_name 2 nd_classes) sts_nil (se_tuple D.bl (sa_cons (se_var 2) sa_nil))) sa_nil)))))
theorem fn_classes {G : Gb} (D : Facts G) : FnIs G "classes" 2 5 m_classes [] := by
  obtain ⟨f, fd, F, g⟩ := D.f_classes
  have b : Binds G.K fd ["row", "hues"] [] := F.bindsN fun _ _ _ _ _ _ us hl => match us, hl with | [_, _], _ => rfl
  exact fnIs_plain F sc_classes (d_classes D) g b .nil (fun _ => .nil)
/-! spread -/
def N_spread : List Str := ["row", "hues"]
theorem nd_spread : N_spread.Nodup := by decide +kernel
theorem sc_spread : FnScope N_spread ["row", "hues"] (defScope s_spread) := ⟨rfl, rfl, rfl, nd_spread, rfl, by decide +kernel, by decide +kernel⟩
noncomputable def F_spread : SF :=
  (sSeq (sExpr (eCall 2 m_require_both [] (aCons (eVar 0) (aCons (eVar 1) aNil))))
    (sRet (e2 gSub (en gMax (aCons (eCall 2 m_sizes_in [] (aCons (eVar 0) (aCons (eVar 1) aNil))) aNil)) (en gMin (aCons (eCall 2 m_sizes_in [] (aCons (eVar 0) (aCons (eVar 1) aNil))) aNil)))))
noncomputable def m_spread : List D → Sto → Res D := mOf 2 F_spread
theorem d_spread {G : Gb} (D : Facts G) (W : WX) : SSs ⟨G, N_spread, defScope s_spread, fun _ => true, 4⟩ W (defBody s_spread) F_spread :=
  (ss_cons (ss_expr (se_call (fn_require_both D) (Nat.le_of_ble_eq_true rfl) (sa_cons (se_var 0) (sa_cons (se_var 1) sa_nil))))
    (ss_one (ss_ret (se_sub (se_max D.bl (sa_cons (se_call (fn_sizes_in D) (Nat.le_of_ble_eq_true rfl) (sa_cons (se_var 0) (sa_cons (se_var 1) sa_nil))) sa_nil)) (se_min D.bl (sa_cons (se_call (fn_sizes_in D) (Nat.le_of_ble_eq_true rfl) (sa_cons (se_var 0) (sa_cons (se_var 1) sa_nil))) sa_nil))))))
theorem fn_spread {G : Gb} (D : Facts G) : FnIs G "spread" 2 5 m_spread [] := by
  obtain ⟨f, fd, F, g⟩ := D.f_spread
  have b : Binds G.K fd ["row", "hues"] [] := F.bindsN fun _ _ _ _ _ _ us hl => match us, hl with | [_, _], _ => rfl
  exact fnIs_plain F sc_spread (d_spread D) g b .nil (fun _ => .nil)
/-! _law_level_counts -/
def N_l_level_counts : List Str := ["_law_size", "_law_hues", "_law_hue"]
theorem nd_l_level_counts : N_l_level_counts.Nodup := by decide +kernel
theorem sc_l_level_counts : FnScope N_l_level_counts ["_law_size", "_law_hues"] (defScope s_l_level_counts) := ⟨rfl, rfl, rfl, nd_l_level_counts, rfl, by decide +kernel, by decide +kernel⟩
noncomputable def C1_l_level_counts : EF :=
  (eLc false [2] (iRange1 (aCons (eVar 1) aNil)) (gSet 2) tTrue (e2 gDiv (en gInt (aCons (e2 gSub (e2 gSub (e2 gAdd (eVar 0) (eVar 1)) (eC (.int 1))) (eVar 2)) aNil)) (eVar 1)))
noncomputable def F_l_level_counts : SF :=
  (sRet C1_l_level_counts)
noncomputable def m_l_level_counts : List D → Sto → Res D := mOf 3 F_l_level_counts
theorem d_l_level_counts {G : Gb} (D : Facts G) (W : WX) : SSs ⟨G, N_l_level_counts, defScope s_l_level_counts, fun _ => true, 0⟩ W (defBody s_l_level_counts) F_l_level_counts :=
  (ss_one (ss_ret (se_lc false [("_law_hue", 2)] nd_l_level_counts (si_range1 (sa_cons (se_var 1) sa_nil) rfl D.bl.range) (by kernel_rfl) (sg_name 2 nd_l_level_counts) sts_nil (se_div (se_int1 D.bl (sa_cons (se_sub (se_sub (se_add (se_var 0) (se_var 1)) se_int) (se_var 2)) sa_nil)) (se_var 1)))))
theorem fn_l_level_counts {G : Gb} (D : Facts G) : FnIs G "_law_level_counts" 2 1 m_l_level_counts [] := by
  obtain ⟨f, fd, F, g⟩ := D.f_l_level_counts
  have b : Binds G.K fd ["_law_size", "_law_hues"] [] := F.bindsN fun _ _ _ _ _ _ us hl => match us, hl with | [_, _], _ => rfl
  exact fnIs_plain F sc_l_level_counts (d_l_level_counts D) g b .nil (fun _ => .nil)
/-! _law_counts_right -/
def N_l_counts_right : List Str := ["_law_row", "_law_hues", "_law_counts_here", "_law_told", "_law_lots", "_law_hue", "_law_due", "_law_place"]
theorem nd_l_counts_right : N_l_counts_right.Nodup := by decide +kernel
theorem sc_l_counts_right : FnScope N_l_counts_right ["_law_row", "_law_hues"] (defScope s_l_counts_right) := ⟨rfl, rfl, rfl, nd_l_counts_right, rfl, by decide +kernel, by decide +kernel⟩
noncomputable def C1_l_counts_right : EF :=
  (eLc false [7] (iRange1 (aCons (en gLen (aCons (eVar 0) aNil)) aNil)) (gSet 7) (fun ρ L => asB ((e2 gEq (e2 gIx (eVar 0) (eVar 7)) (eVar 5)) ρ L)) (eVar 7))
noncomputable def L1_l_counts_right : SF :=
  (sFor (iRange1 (aCons (eVar 1) aNil)) (gSet 5)
    (sIf (fun ρ L => asB ((e2 gNe (e2 gIx (eVar 4) (eVar 5)) (en gTuple (aCons C1_l_counts_right aNil))) ρ L))
    (sRet (eC (.bl false)))
    sSkip))
noncomputable def F_l_counts_right : SF :=
  (sSeq (sSet 2 (eCall 2 m_l_counts [] (aCons (eVar 1) (aCons (eVar 0) aNil))))
    (sSeq (sSet 3 (eLst false (aCons (eCall 2 m_sizes [] (aCons (eVar 0) (aCons (eVar 1) aNil))) (aCons (eCall 2 m_spread [] (aCons (eVar 0) (aCons (eVar 1) aNil))) (aCons (eCall 2 m_is_level [] (aCons (eVar 0) (aCons (eVar 1) aNil))) aNil)))))
    (sSeq (sIf (fun ρ L => asB ((e2 gNe (eVar 3) (eLst false (aCons (en gTuple (aCons (eVar 2) aNil)) (aCons (e2 gSub (en gMax (aCons (eVar 2) aNil)) (en gMin (aCons (eVar 2) aNil))) (aCons (e2 gLt (e2 gSub (en gMax (aCons (eVar 2) aNil)) (en gMin (aCons (eVar 2) aNil))) (eC (.int 2))) aNil))))) ρ L))
    (sRet (eC (.bl false)))
    sSkip)
    (sSeq (sSet 4 (eCall 2 m_classes [] (aCons (eVar 0) (aCons (eVar 1) aNil))))
    (sSeq L1_l_counts_right
    (sSeq (sSet 6 (en gTuple (aCons (eCall 2 m_l_level_counts [] (aCons (en gLen (aCons (eVar 0) aNil)) (aCons (eVar 1) aNil))) aNil)))
    (sSeq (sIf (tOrF (fun ρ L => asB ((e2 gNe (eCall 2 m_level_sizes [] (aCons (en gLen (aCons (eVar 0) aNil)) (aCons (eVar 1) aNil))) (eVar 6)) ρ L)) (fun ρ L => asB ((e2 gNe (eCall 2 m_is_level [] (aCons (eVar 0) (aCons (eVar 1) aNil))) (e2 gEq (en gTuple (aCons (eRev (en (gSort false) (aCons (eVar 2) aNil))) aNil)) (eVar 6))) ρ L)))
    (sRet (eC (.bl false)))
    sSkip)
    (sRet (eAndF (e2 gEq (eCall 1 m_row_of [] (aCons (eVar 4) aNil)) (eVar 0)) (e2 gEq (en gLen (aCons (eVar 4) aNil)) (eVar 1)))))))))))
noncomputable def m_l_counts_right : List D → Sto → Res D := mOf 8 F_l_counts_right
theorem d_l_counts_right {G : Gb} (D : Facts G) (W : WX) : SSs ⟨G, N_l_counts_right, defScope s_l_counts_right, fun _ => true, 5⟩ W (defBody s_l_counts_right) F_l_counts_right :=
  (ss_cons (ss_set 2 nd_l_counts_right (se_call (fn_l_counts D) (Nat.le_of_ble_eq_true rfl) (sa_cons (se_var 1) (sa_cons (se_var 0) sa_nil))))
    (ss_cons (ss_set 3 nd_l_counts_right (se_lst false (sa_cons (se_call (fn_sizes D) (Nat.le_of_ble_eq_true rfl) (sa_cons (se_var 0) (sa_cons (se_var 1) sa_nil))) (sa_cons (se_call (fn_spread D) (Nat.le_of_ble_eq_true rfl) (sa_cons (se_var 0) (sa_cons (se_var 1) sa_nil))) (sa_cons (se_call (fn_is_level D) (Nat.le_of_ble_eq_true rfl) (sa_cons (se_var 0) (sa_cons (se_var 1) sa_nil))) sa_nil)))))
    (ss_cons (ss_if (st_ne (se_var 3) (se_lst false (sa_cons (se_tuple D.bl (sa_cons (se_var 2) sa_nil)) (sa_cons (se_sub (se_max D.bl (sa_cons (se_var 2) sa_nil)) (se_min D.bl (sa_cons (se_var 2) sa_nil))) (sa_cons (se_lt (se_sub (se_max D.bl (sa_cons (se_var 2) sa_nil)) (se_min D.bl (sa_cons (se_var 2) sa_nil))) se_int) sa_nil)))))
    (ss_one (ss_ret se_bl))
    ss_nil)
    (ss_cons (ss_set 4 nd_l_counts_right (se_call (fn_classes D) (Nat.le_of_ble_eq_true rfl) (sa_cons (se_var 0) (sa_cons (se_var 1) sa_nil))))
    (ss_cons (ss_for (own := [5]) (si_range1 (sa_cons (se_var 1) sa_nil) rfl D.bl.range) (sg_name 5 nd_l_counts_right)
    (ss_one (ss_if (st_ne (se_ix (se_var 4) (se_var 5)) (se_tuple D.bl (sa_cons (se_lc false [("_law_place", 7)] nd_l_counts_right (si_range1 (sa_cons (se_len D.bl (sa_cons (se_var 0) sa_nil)) sa_nil) rfl D.bl.range) (by kernel_rfl) (sg_name 7 nd_l_counts_right) (sts_one (st_eq (se_ix (se_var 0) (se_var 7)) (se_var 5))) (se_var 7)) sa_nil)))
    (ss_one (ss_ret se_bl))
    ss_nil)))
    (ss_cons (ss_set 6 nd_l_counts_right (se_tuple D.bl (sa_cons (se_call (fn_l_level_counts D) (Nat.le_of_ble_eq_true rfl) (sa_cons (se_len D.bl (sa_cons (se_var 0) sa_nil)) (sa_cons (se_var 1) sa_nil))) sa_nil)))
    (ss_cons (ss_if (st_bool (sw_or (st_ne (se_call (fn_level_sizes D) (Nat.le_of_ble_eq_true rfl) (sa_cons (se_len D.bl (sa_cons (se_var 0) sa_nil)) (sa_cons (se_var 1) sa_nil))) (se_var 6)) (sw_one_or (st_ne (se_call (fn_is_level D) (Nat.le_of_ble_eq_true rfl) (sa_cons (se_var 0) (sa_cons (se_var 1) sa_nil))) (se_eq (se_tuple D.bl (sa_cons (se_rev (se_sort false D.bl (sa_cons (se_var 2) sa_nil))) sa_nil)) (se_var 6))))))
    (ss_one (ss_ret se_bl))
    ss_nil)
    (ss_one (ss_ret (se_and (se_eq (se_call (fn_row_of D) (Nat.le_of_ble_eq_true rfl) (sa_cons (se_var 4) sa_nil)) (se_var 0)) (se_one (se_eq (se_len D.bl (sa_cons (se_var 4) sa_nil)) (se_var 1)))))))))))))
theorem fn_l_counts_right {G : Gb} (D : Facts G) : FnIs G "_law_counts_right" 2 6 m_l_counts_right [] := by
  obtain ⟨f, fd, F, g⟩ := D.f_l_counts_right
  have b : Binds G.K fd ["_law_row", "_law_hues"] [] := F.bindsN fun _ _ _ _ _ _ us hl => match us, hl with | [_, _], _ => rfl
  exact fnIs_plain F sc_l_counts_right (d_l_counts_right D) g b .nil (fun _ => .nil)
/-! require_hue -/
def N_require_hue : List Str := ["hue", "hues"]
theorem nd_require_hue : N_require_hue.Nodup := by decide +kernel
theorem sc_require_hue : FnScope N_require_hue ["hue", "hues"] (defScope s_require_hue) := ⟨rfl, rfl, rfl, nd_require_hue, rfl, by decide +kernel, by decide +kernel⟩
noncomputable def F_require_hue : SF :=
  (sIf (tNotF (tTru (eCall 3 m_is_integer [] (aCons (eVar 0) (aCons (eC (.int 0)) (aCons (e2 gSub (eVar 1) (eC (.int 1))) aNil))))))
    sNever
    sSkip)
noncomputable def m_require_hue : List D → Sto → Res D := mOf 2 F_require_hue
theorem d_require_hue {G : Gb} (D : Facts G) (W : WX) : SSs ⟨G, N_require_hue, defScope s_require_hue, fun _ => true, 1⟩ W (defBody s_require_hue) F_require_hue :=
  (ss_one (ss_if (st_not (st_truth (se_call (fn_is_integer D) (Nat.le_of_ble_eq_true rfl) (sa_cons (se_var 0) (sa_cons se_int (sa_cons (se_sub (se_var 1) se_int) sa_nil))))))
    (ss_one ss_never)
    ss_nil))
theorem fn_require_hue {G : Gb} (D : Facts G) : FnIs G "require_hue" 2 2 m_require_hue [] := by
  obtain ⟨f, fd, F, g⟩ := D.f_require_hue
  have b : Binds G.K fd ["hue", "hues"] [] := F.bindsN fun _ _ _ _ _ _ us hl => match us, hl with | [_, _], _ => rfl
  exact fnIs_plain F sc_require_hue (d_require_hue D) g b .nil (fun _ => .nil)
/-! exchanged -/
def N_exchanged : List Str := ["row", "hues", "one", "other", "turned", "hue"]
theorem nd_exchanged : N_exchanged.Nodup := by decide +kernel
theorem sc_exchanged : FnScope N_exchanged ["row", "hues", "one", "other"] (defScope s_exchanged) := ⟨rfl, rfl, rfl, nd_exchanged, rfl, by decide +kernel, by decide +kernel⟩
noncomputable def C1_exchanged : EF :=
  (eLc false [5] (iSeq (eVar 0)) (gSet 5) tTrue (eGet2 (eVar 4) (eVar 5) (eVar 5)))
noncomputable def F_exchanged : SF :=
  (sSeq (sExpr (eCall 1 m_require_row [] (aCons (eVar 0) aNil)))
    (sSeq (sExpr (eCall 1 m_require_hues [] (aCons (eVar 1) aNil)))
    (sSeq (sExpr (eCall 2 m_require_hue [] (aCons (eVar 2) (aCons (eVar 1) aNil))))
    (sSeq (sExpr (eCall 2 m_require_hue [] (aCons (eVar 3) (aCons (eVar 1) aNil))))
    (sSeq (sExpr (eCall 2 m_require_below [] (aCons (eVar 0) (aCons (eVar 1) aNil))))
    (sSeq (sSet 4 (eDisp false (((eVar 2), (eVar 3)) :: (((eVar 3), (eVar 2)) :: []))))
    (sRet (en gTuple (aCons C1_exchanged aNil)))))))))
noncomputable def m_exchanged : List D → Sto → Res D := mOf 6 F_exchanged
theorem d_exchanged {G : Gb} (D : Facts G) (W : WX) : SSs ⟨G, N_exchanged, defScope s_exchanged, fun _ => true, 3⟩ W (defBody s_exchanged) F_exchanged :=
  (ss_cons (ss_expr (se_call (fn_require_row D) (Nat.le_of_ble_eq_true rfl) (sa_cons (se_var 0) sa_nil)))
    (ss_cons (ss_expr (se_call (fn_require_hues D) (Nat.le_of_ble_eq_true rfl) (sa_cons (se_var 1) sa_nil)))
    (ss_cons (ss_expr (se_call (fn_require_hue D) (Nat.le_of_ble_eq_true rfl) (sa_cons (se_var 2) (sa_cons (se_var 1) sa_nil))))
    (ss_cons (ss_expr (se_call (fn_require_hue D) (Nat.le_of_ble_eq_true rfl) (sa_cons (se_var 3) (sa_cons (se_var 1) sa_nil))))
    (ss_cons (ss_expr (se_call (fn_require_below D) (Nat.le_of_ble_eq_true rfl) (sa_cons (se_var 0) (sa_cons (se_var 1) sa_nil))))
    (ss_cons (ss_set 4 nd_exchanged (se_disp false (sp_cons (se_var 2) (se_var 3) (sp_cons (se_var 3) (se_var 2) sp_nil))))
    (ss_one (ss_ret (se_tuple D.bl (sa_cons (se_lc false [("hue", 5)] nd_exchanged (si_seq (se_var 0)) (by kernel_rfl) (sg_name 5 nd_exchanged) sts_nil (se_get2 (se_var 4) (se_var 5) (se_var 5))) sa_nil))))))))))
theorem fn_exchanged {G : Gb} (D : Facts G) : FnIs G "exchanged" 4 4 m_exchanged [] := by
  obtain ⟨f, fd, F, g⟩ := D.f_exchanged
  have b : Binds G.K fd ["row", "hues", "one", "other"] [] := F.bindsN fun _ _ _ _ _ _ us hl => match us, hl with | [_, _, _, _], _ => rfl
  exact fnIs_plain F sc_exchanged (d_exchanged D) g b .nil (fun _ => .nil)
/-! _law_named -/
def N_l_named : List Str := ["_law_row", "_law_order", "_law_hue"]
theorem nd_l_named : N_l_named.Nodup := by decide +kernel
theorem sc_l_named : FnScope N_l_named ["_law_row"] (defScope s_l_named) := ⟨rfl, rfl, rfl, nd_l_named, rfl, by decide +kernel, by decide +kernel⟩
noncomputable def L1_l_named : SF :=
  (sFor (iSeq (eVar 0)) (gSet 2)
    (sSet 1 (e2 gAdd (eVar 1) (e2 gMul (eLst false (aCons (eVar 2) aNil)) (en gInt (aCons (e2 gNotIn (eVar 2) (eVar 1)) aNil))))))
noncomputable def C1_l_named : EF :=
  (eLc false [2] (iSeq (eVar 0)) (gSet 2) tTrue (eBm (eVar 1) (aCons (eVar 2) aNil) gLIndex))
noncomputable def F_l_named : SF :=
  (sSeq (sSet 1 (eLst false aNil))
    (sSeq L1_l_named
    (sRet (en gTuple (aCons C1_l_named aNil)))))
noncomputable def m_l_named : List D → Sto → Res D := mOf 3 F_l_named
theorem d_l_named {G : Gb} (D : Facts G) (W : WX) : SSs ⟨G, N_l_named, defScope s_l_named, fun _ => true, 0⟩ W (defBody s_l_named) F_l_named :=
  (ss_cons (ss_set 1 nd_l_named (se_lst false sa_nil))
    (ss_cons (ss_for (own := [2]) (si_seq (se_var 0)) (sg_name 2 nd_l_named)
    (ss_one (ss_set 1 nd_l_named (se_add (se_var 1) (se_mul (se_lst false (sa_cons (se_var 2) sa_nil)) (se_int1 D.bl (sa_cons (se_notIn (se_var 2) (se_var 1)) sa_nil)))))))
    (ss_one (ss_ret (se_tuple D.bl (sa_cons (se_lc false [("_law_hue", 2)] nd_l_named (si_seq (se_var 0)) (by kernel_rfl) (sg_name 2 nd_l_named) sts_nil (se_lindex (se_var 1) (sa_cons (se_var 2) sa_nil))) sa_nil))))))
theorem fn_l_named {G : Gb} (D : Facts G) : FnIs G "_law_named" 1 1 m_l_named [] := by
  obtain ⟨f, fd, F, g⟩ := D.f_l_named
  have b : Binds G.K fd ["_law_row"] [] := F.bindsN fun _ _ _ _ _ _ us hl => match us, hl with | [_], _ => rfl
  exact fnIs_plain F sc_l_named (d_l_named D) g b .nil (fun _ => .nil)
/-! _law_right -/
def N_l_right : List Str := ["_law_dice_here", "_law_hues", "_law_row", "_law_swapped", "_law_order", "_law_odd", "_law_one", "_law_two", "_law_turned", "_law_wild", "_law_hue", "_law_thing"]
theorem nd_l_right : N_l_right.Nodup := by decide +kernel
theorem sc_l_right : FnScope N_l_right ["_law_dice_here"] (defScope s_l_right) := ⟨rfl, rfl, rfl, nd_l_right, rfl, by decide +kernel, by decide +kernel⟩
noncomputable def C1_l_right : EF :=
  (eLc false [10] (iSeq (eVar 2)) (gSet 10) tTrue (eIf (fun ρ L => asB ((e2 gEq (eVar 10) (eVar 6)) ρ L)) (eVar 7) (eIf (fun ρ L => asB ((e2 gEq (eVar 10) (eVar 7)) ρ L)) (eVar 6) (eVar 10))))
noncomputable def C2_l_right : EF :=
  (eLc false [10] (iSeq (eVar 2)) (gSet 10) tTrue (e2 gIx (eVar 4) (eVar 10)))
noncomputable def C3_l_right : EF :=
  (eLc false [10] (iSeq (eVar 2)) (gSet 10) tTrue (eCall 2 m_l_roll [] (aCons (eVar 0) (aCons (eVar 1) aNil))))
noncomputable def C4_l_right : EF :=
  (eLc false [11] (iSeq (eVar 5)) (gSet 11) (tTru (eCall 1 m_is_row [] (aCons (eVar 11) aNil))) (eVar 11))
noncomputable def F_l_right : SF :=
  (sSeq (sSet 1 (e2 gAdd (eC (.int 1)) (eCall 2 m_l_roll [] (aCons (eVar 0) (aCons (eC (.int 8)) aNil)))))
    (sSeq (sSet 2 (eCall 2 m_l_drawn_row [] (aCons (eVar 0) (aCons (eVar 1) aNil))))
    (sSeq (sAsg (eTup (aCons (eCall 2 m_l_roll [] (aCons (eVar 0) (aCons (eVar 1) aNil))) (aCons (eCall 2 m_l_roll [] (aCons (eVar 0) (aCons (eVar 1) aNil))) aNil))) (gTupF 2 (gsCons (gSet 6) (gsCons (gSet 7) gsNil))))
    (sSeq (sIf (tNotF (tTru (eCall 2 m_l_counts_right [] (aCons (eVar 2) (aCons (eVar 1) aNil)))))
    (sRet (eC (.bl false)))
    sSkip)
    (sSeq (sSet 3 (en gTuple (aCons C1_l_right aNil)))
    (sSeq (sIf (tOrF (fun ρ L => asB ((e2 gNe (eCall 4 m_exchanged [] (aCons (eVar 2) (aCons (eVar 1) (aCons (eVar 6) (aCons (eVar 7) aNil))))) (eVar 3)) ρ L)) (fun ρ L => asB ((e2 gNe (eCall 4 m_exchanged [] (aCons (eVar 3) (aCons (eVar 1) (aCons (eVar 7) (aCons (eVar 6) aNil))))) (eVar 2)) ρ L)))
    (sRet (eC (.bl false)))
    sSkip)
    (sSeq (sSet 4 (eCall 2 m_l_mixed [] (aCons (eVar 0) (aCons (eRange1 (eVar 1) (lstOut false)) aNil))))
    (sSeq (sPar 8 9 (aCons (en gTuple (aCons C2_l_right aNil)) (aCons (en gTuple (aCons C3_l_right aNil)) aNil)))
    (sSeq (sIf (tOrF (fun ρ L => asB ((e2 gNe (eCall 1 m_renamed [] (aCons (eVar 2) aNil)) (eCall 1 m_l_named [] (aCons (eVar 2) aNil))) ρ L)) (tOrF (fun ρ L => asB ((e2 gNe (eCall 1 m_renamed [] (aCons (eVar 8) aNil)) (eCall 1 m_renamed [] (aCons (eVar 2) aNil))) ρ L)) (fun ρ L => asB ((e2 gNotB (eCall 2 m_are_alike [] (aCons (eVar 2) (aCons (eVar 8) aNil))) (eC (.bl true))) ρ L))))
    (sRet (eC (.bl false)))
    sSkip)
    (sSeq (sIf (fun ρ L => asB ((e2 gNe (eCall 2 m_are_alike [] (aCons (eVar 2) (aCons (eVar 9) aNil))) (e2 gEq (eCall 1 m_l_named [] (aCons (eVar 2) aNil)) (eCall 1 m_l_named [] (aCons (eVar 9) aNil)))) ρ L))
    (sRet (eC (.bl false)))
    sSkip)
    (sSeq (sIf (fun ρ L => asB ((e2 gNe (en (gSort false) (aCons (eCall 2 m_sizes [] (aCons (eVar 8) (aCons (eVar 1) aNil))) aNil)) (en (gSort false) (aCons (eCall 2 m_sizes [] (aCons (eVar 2) (aCons (eVar 1) aNil))) aNil))) ρ L))
    (sRet (eC (.bl false)))
    sSkip)
    (sSeq (sSet 5 (eLst false (aCons (eC .non) (aCons (eC (.int 0)) (aCons (eTupG aNil) (aCons (eLst false (aCons (eC (.int 0)) aNil)) (aCons (eC (.str "01")) (aCons (eDict0 false) (aCons (eTupG (aCons (eC (.bl true)) aNil)) (aCons (eTupG (aCons (e1 gNeg (eC (.int 1))) aNil)) (aCons (eTupG (aCons (eC .non) aNil)) (aCons (eTupG (aCons (eC (.str "0")) aNil)) (aCons (e2 gMul (eTupG (aCons (eC (.int 0)) aNil)) (eC (.int 21))) (aCons (en (gList false) (aCons (eVar 2) aNil)) (aCons (eTupG (aCons (eTupG (aCons (eC (.int 0)) aNil)) aNil)) aNil)))))))))))))))
    (sRet (eAndF (eCall 1 m_is_row [] (aCons (eVar 2) aNil)) (eAndF (eCall 1 m_is_row [] (aCons (e2 gMul (eTupG (aCons (eC (.int 0)) aNil)) (eC (.int 20))) aNil)) (e2 gEq C4_l_right (eLst false aNil)))))))))))))))))
noncomputable def m_l_right : List D → Sto → Res D := mOf 12 F_l_right
theorem d_l_right {G : Gb} (D : Facts G) (W : WX) : SSs ⟨G, N_l_right, defScope s_l_right, fun _ => true, 6⟩ W (defBody s_l_right) F_l_right :=
  (ss_cons (ss_set 1 nd_l_right (se_add se_int (se_call (fn_l_roll D) (Nat.le_of_ble_eq_true rfl) (sa_cons (se_var 0) (sa_cons se_int sa_nil)))))
    (ss_cons (ss_set 2 nd_l_right (se_call (fn_l_drawn_row D) (Nat.le_of_ble_eq_true rfl) (sa_cons (se_var 0) (sa_cons (se_var 1) sa_nil))))
    (ss_cons (ss_asgC (own := [6, 7]) (se_tup (sa_cons (se_call (fn_l_roll D) (Nat.le_of_ble_eq_true rfl) (sa_cons (se_var 0) (sa_cons (se_var 1) sa_nil))) (sa_cons (se_call (fn_l_roll D) (Nat.le_of_ble_eq_true rfl) (sa_cons (se_var 0) (sa_cons (se_var 1) sa_nil))) sa_nil))) (sg_tup (sgs_cons (sg_name 6 nd_l_right) (sgs_cons (sg_name 7 nd_l_right) sgs_nil))))
    (ss_cons (ss_if (st_not (st_truth (se_call (fn_l_counts_right D) (Nat.le_of_ble_eq_true rfl) (sa_cons (se_var 2) (sa_cons (se_var 1) sa_nil)))))
    (ss_one (ss_ret se_bl))
    ss_nil)
    (ss_cons (ss_set 3 nd_l_right (se_tuple D.bl (sa_cons (se_lc false [("_law_hue", 10)] nd_l_right (si_seq (se_var 2)) (by kernel_rfl) (sg_name 10 nd_l_right) sts_nil (se_if (st_eq (se_var 10) (se_var 6)) (se_var 7) (se_if (st_eq (se_var 10) (se_var 7)) (se_var 6) (se_var 10)))) sa_nil)))
    (ss_cons (ss_if (st_bool (sw_or (st_ne (se_call (fn_exchanged D) (Nat.le_of_ble_eq_true rfl) (sa_cons (se_var 2) (sa_cons (se_var 1) (sa_cons (se_var 6) (sa_cons (se_var 7) sa_nil))))) (se_var 3)) (sw_one_or (st_ne (se_call (fn_exchanged D) (Nat.le_of_ble_eq_true rfl) (sa_cons (se_var 3) (sa_cons (se_var 1) (sa_cons (se_var 7) (sa_cons (se_var 6) sa_nil))))) (se_var 2)))))
    (ss_one (ss_ret se_bl))
    ss_nil)
    (ss_cons (ss_set 4 nd_l_right (se_call (fn_l_mixed D) (Nat.le_of_ble_eq_true rfl) (sa_cons (se_var 0) (sa_cons (se_listRg1 false D.bl (se_var 1)) sa_nil))))
    (ss_cons (ss_par 8 9 nd_l_right (sa_cons (se_tuple D.bl (sa_cons (se_lc false [("_law_hue", 10)] nd_l_right (si_seq (se_var 2)) (by kernel_rfl) (sg_name 10 nd_l_right) sts_nil (se_ix (se_var 4) (se_var 10))) sa_nil)) (sa_cons (se_tuple D.bl (sa_cons (se_lc false [("_law_hue", 10)] nd_l_right (si_seq (se_var 2)) (by kernel_rfl) (sg_name 10 nd_l_right) sts_nil (se_call (fn_l_roll D) (Nat.le_of_ble_eq_true rfl) (sa_cons (se_var 0) (sa_cons (se_var 1) sa_nil)))) sa_nil)) sa_nil)))
    (ss_cons (ss_if (st_bool (sw_or (st_ne (se_call (fn_renamed D) (Nat.le_of_ble_eq_true rfl) (sa_cons (se_var 2) sa_nil)) (se_call (fn_l_named D) (Nat.le_of_ble_eq_true rfl) (sa_cons (se_var 2) sa_nil))) (sw_or (st_ne (se_call (fn_renamed D) (Nat.le_of_ble_eq_true rfl) (sa_cons (se_var 8) sa_nil)) (se_call (fn_renamed D) (Nat.le_of_ble_eq_true rfl) (sa_cons (se_var 2) sa_nil))) (sw_one_or (st_notB (se_call (fn_are_alike D) (Nat.le_of_ble_eq_true rfl) (sa_cons (se_var 2) (sa_cons (se_var 8) sa_nil))) se_bl)))))
    (ss_one (ss_ret se_bl))
    ss_nil)
    (ss_cons (ss_if (st_ne (se_call (fn_are_alike D) (Nat.le_of_ble_eq_true rfl) (sa_cons (se_var 2) (sa_cons (se_var 9) sa_nil))) (se_eq (se_call (fn_l_named D) (Nat.le_of_ble_eq_true rfl) (sa_cons (se_var 2) sa_nil)) (se_call (fn_l_named D) (Nat.le_of_ble_eq_true rfl) (sa_cons (se_var 9) sa_nil))))
    (ss_one (ss_ret se_bl))
    ss_nil)
    (ss_cons (ss_if (st_ne (se_sort false D.bl (sa_cons (se_call (fn_sizes D) (Nat.le_of_ble_eq_true rfl) (sa_cons (se_var 8) (sa_cons (se_var 1) sa_nil))) sa_nil)) (se_sort false D.bl (sa_cons (se_call (fn_sizes D) (Nat.le_of_ble_eq_true rfl) (sa_cons (se_var 2) (sa_cons (se_var 1) sa_nil))) sa_nil)))
    (ss_one (ss_ret se_bl))
    ss_nil)
    (ss_cons (ss_set 5 nd_l_right (se_lst false (sa_cons se_non (sa_cons se_int (sa_cons (se_tupG sa_nil) (sa_cons (se_lst false (sa_cons se_int sa_nil)) (sa_cons se_str (sa_cons (se_dict0 false) (sa_cons (se_tupG (sa_cons se_bl sa_nil)) (sa_cons (se_tupG (sa_cons (se_neg se_int) sa_nil)) (sa_cons (se_tupG (sa_cons se_non sa_nil)) (sa_cons (se_tupG (sa_cons se_str sa_nil)) (sa_cons (se_mul (se_tupG (sa_cons se_int sa_nil)) se_int) (sa_cons (se_list false D.bl (sa_cons (se_var 2) sa_nil)) (sa_cons (se_tupG (sa_cons (se_tupG (sa_cons se_int sa_nil)) sa_nil)) sa_nil)))))))))))))))
    (ss_one (ss_ret (se_and (se_call (fn_is_row D) (Nat.le_of_ble_eq_true rfl) (sa_cons (se_var 2) sa_nil)) (se_and (se_call (fn_is_row D) (Nat.le_of_ble_eq_true rfl) (sa_cons (se_mul (se_tupG (sa_cons se_int sa_nil)) se_int) sa_nil)) (se_one (se_eq (se_lc false [("_law_thing", 11)] nd_l_right (si_seq (se_var 5)) (by kernel_rfl) (sg_name 11 nd_l_right) (sts_one (st_truth (se_call (fn_is_row D) (Nat.le_of_ble_eq_true rfl) (sa_cons (se_var 11) sa_nil)))) (se_var 11)) (se_lst false sa_nil)))))))))))))))))))
theorem fn_l_right {G : Gb} (D : Facts G) : FnIs G "_law_right" 1 7 m_l_right [] := by
  obtain ⟨f, fd, F, g⟩ := D.f_l_right
  have b : Binds G.K fd ["_law_dice_here"] [] := F.bindsN fun _ _ _ _ _ _ us hl => match us, hl with | [_], _ => rfl
  exact fnIs_plain F sc_l_right (d_l_right D) g b .nil (fun _ => .nil)
/-! law -/
def N_law : List Str := ["_law_script", "_law_at", "_law_told", "_law_due", "_law_dice_here", "_law_turn"]
theorem nd_law : N_law.Nodup := by decide +kernel
theorem sc_law : FnScope N_law ["_law_script"] (defScope s_law) := ⟨rfl, rfl, rfl, nd_law, rfl, by decide +kernel, by decide +kernel⟩
noncomputable def L1_law : SF :=
  (sFor (iRange1 (aCons (eC (.int 4)) aNil)) (gSet 5)
    (sIf (tNotF (tTru (eCall 1 m_l_right [] (aCons (eVar 4) aNil))))
    (sRet (eC (.bl false)))
    sSkip))
noncomputable def L2_law : SF :=
  (sFor (iRange1 (aCons (en gMax (aCons (eC (.int 1)) (aCons (en gMin (aCons (eC (.int 10)) (aCons (en gLen (aCons (eVar 0) aNil)) aNil))) aNil))) aNil)) (gSet 1)
    (sSeq (sSet 4 (eCall 2 m_l_dice [] (aCons (eVar 0) (aCons (eVar 1) aNil))))
    L1_law))
noncomputable def F_law : SF :=
  (sSeq L2_law
    (sSeq (sSet 2 (eLst false (aCons (eCall 2 m_sizes [] (aCons (eTupG (aCons (eC (.int 0)) (aCons (eC (.int 1)) (aCons (eC (.int 0)) (aCons (eC (.int 2)) aNil))))) (aCons (eC (.int 4)) aNil))) (aCons (eCall 2 m_is_level [] (aCons (eTupG (aCons (eC (.int 0)) (aCons (eC (.int 1)) (aCons (eC (.int 0)) (aCons (eC (.int 2)) aNil))))) (aCons (eC (.int 3)) aNil))) (aCons (eCall 2 m_is_level [] (aCons (eTupG (aCons (eC (.int 0)) (aCons (eC (.int 1)) (aCons (eC (.int 0)) (aCons (eC (.int 2)) aNil))))) (aCons (eC (.int 4)) aNil))) aNil)))))
    (sSeq (sSet 2 (e2 gAdd (eVar 2) (eLst false (aCons (eCall 2 m_level_sizes [] (aCons (eC (.int 7)) (aCons (eC (.int 3)) aNil))) (aCons (eCall 2 m_level_sizes [] (aCons (eC (.int 2)) (aCons (eC (.int 4)) aNil))) aNil)))))
    (sSeq (sSet 2 (e2 gAdd (eVar 2) (eLst false (aCons (eCall 1 m_row_of [] (aCons (eTupG (aCons (eTupG (aCons (eC (.int 2)) aNil)) (aCons (eTupG (aCons (eC (.int 0)) (aCons (eC (.int 1)) aNil))) aNil))) aNil)) (aCons (eCall 1 m_renamed [] (aCons (eTupG (aCons (eC (.int 30)) (aCons (eC (.int 1)) (aCons (eC (.int 30)) (aCons (eC (.int 0)) aNil))))) aNil)) (aCons (eCall 2 m_are_alike [] (aCons (eTupG (aCons (eC (.int 0)) (aCons (eC (.int 1)) (aCons (eC (.int 1)) aNil)))) (aCons (eTupG (aCons (eC (.int 2)) (aCons (eC (.int 0)) (aCons (eC (.int 0)) aNil)))) aNil))) (aCons (eCall 2 m_is_level [] (aCons (eTupG (aCons (eC (.int 0)) aNil)) (aCons (eC (.int 20)) aNil))) aNil)))))))
    (sSeq (sSet 3 (eLst false (aCons (eTupG (aCons (eC (.int 2)) (aCons (eC (.int 1)) (aCons (eC (.int 1)) (aCons (eC (.int 0)) aNil))))) (aCons (eC (.bl true)) (aCons (eC (.bl false)) (aCons (eTupG (aCons (eC (.int 3)) (aCons (eC (.int 2)) (aCons (eC (.int 2)) aNil)))) (aCons (eTupG (aCons (eC (.int 1)) (aCons (eC (.int 1)) (aCons (eC (.int 0)) (aCons (eC (.int 0)) aNil))))) (aCons (eTupG (aCons (eC (.int 1)) (aCons (eC (.int 1)) (aCons (eC (.int 0)) aNil)))) (aCons (eTupG (aCons (eC (.int 0)) (aCons (eC (.int 1)) (aCons (eC (.int 0)) (aCons (eC (.int 2)) aNil))))) (aCons (eC (.bl true)) (aCons (eC (.bl true)) aNil)))))))))))
    (sRet (e2 gEq (eVar 2) (eVar 3))))))))
noncomputable def m_law : List D → Sto → Res D := mOf 6 F_law
theorem d_law {G : Gb} (D : Facts G) (W : WX) : SSs ⟨G, N_law, defScope s_law, fun _ => true, 7⟩ W (defBody s_law) F_law :=
  (ss_cons (ss_for (own := [1]) (si_range1 (sa_cons (se_max D.bl (sa_cons se_int (sa_cons (se_min D.bl (sa_cons se_int (sa_cons (se_len D.bl (sa_cons (se_var 0) sa_nil)) sa_nil))) sa_nil))) sa_nil) rfl D.bl.range) (sg_name 1 nd_law)
    (ss_cons (ss_set 4 nd_law (se_call (fn_l_dice D) (Nat.le_of_ble_eq_true rfl) (sa_cons (se_var 0) (sa_cons (se_var 1) sa_nil))))
    (ss_one (ss_for (own := [5]) (si_range1 (sa_cons se_int sa_nil) rfl D.bl.range) (sg_name 5 nd_law)
    (ss_one (ss_if (st_not (st_truth (se_call (fn_l_right D) (Nat.le_of_ble_eq_true rfl) (sa_cons (se_var 4) sa_nil))))
    (ss_one (ss_ret se_bl))
    ss_nil))))))
    (ss_cons (ss_set 2 nd_law (se_lst false (sa_cons (se_call (fn_sizes D) (Nat.le_of_ble_eq_true rfl) (sa_cons (se_tupG (sa_cons se_int (sa_cons se_int (sa_cons se_int (sa_cons se_int sa_nil))))) (sa_cons se_int sa_nil))) (sa_cons (se_call (fn_is_level D) (Nat.le_of_ble_eq_true rfl) (sa_cons (se_tupG (sa_cons se_int (sa_cons se_int (sa_cons se_int (sa_cons se_int sa_nil))))) (sa_cons se_int sa_nil))) (sa_cons (se_call (fn_is_level D) (Nat.le_of_ble_eq_true rfl) (sa_cons (se_tupG (sa_cons se_int (sa_cons se_int (sa_cons se_int (sa_cons se_int sa_nil))))) (sa_cons se_int sa_nil))) sa_nil)))))
    (ss_cons (ss_set 2 nd_law (se_add (se_var 2) (se_lst false (sa_cons (se_call (fn_level_sizes D) (Nat.le_of_ble_eq_true rfl) (sa_cons se_int (sa_cons se_int sa_nil))) (sa_cons (se_call (fn_level_sizes D) (Nat.le_of_ble_eq_true rfl) (sa_cons se_int (sa_cons se_int sa_nil))) sa_nil)))))
    (ss_cons (ss_set 2 nd_law (se_add (se_var 2) (se_lst false (sa_cons (se_call (fn_row_of D) (Nat.le_of_ble_eq_true rfl) (sa_cons (se_tupG (sa_cons (se_tupG (sa_cons se_int sa_nil)) (sa_cons (se_tupG (sa_cons se_int (sa_cons se_int sa_nil))) sa_nil))) sa_nil)) (sa_cons (se_call (fn_renamed D) (Nat.le_of_ble_eq_true rfl) (sa_cons (se_tupG (sa_cons se_int (sa_cons se_int (sa_cons se_int (sa_cons se_int sa_nil))))) sa_nil)) (sa_cons (se_call (fn_are_alike D) (Nat.le_of_ble_eq_true rfl) (sa_cons (se_tupG (sa_cons se_int (sa_cons se_int (sa_cons se_int sa_nil)))) (sa_cons (se_tupG (sa_cons se_int (sa_cons se_int (sa_cons se_int sa_nil)))) sa_nil))) (sa_cons (se_call (fn_is_level D) (Nat.le_of_ble_eq_true rfl) (sa_cons (se_tupG (sa_cons se_int sa_nil)) (sa_cons se_int sa_nil))) sa_nil)))))))
    (ss_cons (ss_set 3 nd_law (se_lst false (sa_cons (se_tupG (sa_cons se_int (sa_cons se_int (sa_cons se_int (sa_cons se_int sa_nil))))) (sa_cons se_bl (sa_cons se_bl (sa_cons (se_tupG (sa_cons se_int (sa_cons se_int (sa_cons se_int sa_nil)))) (sa_cons (se_tupG (sa_cons se_int (sa_cons se_int (sa_cons se_int (sa_cons se_int sa_nil))))) (sa_cons (se_tupG (sa_cons se_int (sa_cons se_int (sa_cons se_int sa_nil)))) (sa_cons (se_tupG (sa_cons se_int (sa_cons se_int (sa_cons se_int (sa_cons se_int sa_nil))))) (sa_cons se_bl (sa_cons se_bl sa_nil)))))))))))
    (ss_one (ss_ret (se_eq (se_var 2) (se_var 3)))))))))
theorem fn_law {G : Gb} (D : Facts G) : FnIs G "law" 1 8 m_law [] := by
  obtain ⟨f, fd, F, g⟩ := D.f_law
  have b : Binds G.K fd ["_law_script"] [] := F.bindsN fun _ _ _ _ _ _ us hl => match us, hl with | [_], _ => rfl
  exact fnIs_plain F sc_law (d_law D) g b .nil (fun _ => .nil)
end DS
set_option Elab.async false
set_option linter.all false
set_option maxRecDepth 100000
set_option maxHeartbeats 0
namespace DS
open PySem PySem.Spec L2
open PyProof.Rows hiding St
/-! the head -/
def dd_l_dice : He.DefD := ⟨("_law_dice", none), "_law_dice", "_law_dice", defArgs s_l_dice, defBody s_l_dice, defScope s_l_dice, [], []⟩
def dd_is_integer : He.DefD := ⟨("is_integer", none), "is_integer", "is_integer", defArgs s_is_integer, defBody s_is_integer, defScope s_is_integer, [], []⟩
def dd_is_row : He.DefD := ⟨("is_row", none), "is_row", "is_row", defArgs s_is_row, defBody s_is_row, defScope s_is_row, [], []⟩
def dd_require_row : He.DefD := ⟨("require_row", none), "require_row", "require_row", defArgs s_require_row, defBody s_require_row, defScope s_require_row, [], []⟩
def dd_require_hues : He.DefD := ⟨("require_hues", none), "require_hues", "require_hues", defArgs s_require_hues, defBody s_require_hues, defScope s_require_hues, [], []⟩
def dd_require_below : He.DefD := ⟨("require_below", none), "require_below", "require_below", defArgs s_require_below, defBody s_require_below, defScope s_require_below, [], []⟩
def dd_require_both : He.DefD := ⟨("require_both", none), "require_both", "require_both", defArgs s_require_both, defBody s_require_both, defScope s_require_both, [], []⟩
def dd_sizes_in : He.DefD := ⟨("sizes_in", none), "sizes_in", "sizes_in", defArgs s_sizes_in, defBody s_sizes_in, defScope s_sizes_in, [], []⟩
def dd_sizes : He.DefD := ⟨("sizes", none), "sizes", "sizes", defArgs s_sizes, defBody s_sizes, defScope s_sizes, [], []⟩
def dd_is_level : He.DefD := ⟨("is_level", none), "is_level", "is_level", defArgs s_is_level, defBody s_is_level, defScope s_is_level, [], []⟩
def dd_level_sizes_in : He.DefD := ⟨("level_sizes_in", none), "level_sizes_in", "level_sizes_in", defArgs s_level_sizes_in, defBody s_level_sizes_in, defScope s_level_sizes_in, [], []⟩
def dd_level_sizes : He.DefD := ⟨("level_sizes", none), "level_sizes", "level_sizes", defArgs s_level_sizes, defBody s_level_sizes, defScope s_level_sizes, [], []⟩
def dd_is_ascending : He.DefD := ⟨("is_ascending", none), "is_ascending", "is_ascending", defArgs s_is_ascending, defBody s_is_ascending, defScope s_is_ascending, [], []⟩
def dd_are_places : He.DefD := ⟨("are_places", none), "are_places", "are_places", defArgs s_are_places, defBody s_are_places, defScope s_are_places, [], []⟩
def dd_are_parts : He.DefD := ⟨("are_parts", none), "are_parts", "are_parts", defArgs s_are_parts, defBody s_are_parts, defScope s_are_parts, [], []⟩
def dd_row_of : He.DefD := ⟨("row_of", none), "row_of", "row_of", defArgs s_row_of, defBody s_row_of, defScope s_row_of, [], []⟩
def dd_renamed_in : He.DefD := ⟨("renamed_in", none), "renamed_in", "renamed_in", defArgs s_renamed_in, defBody s_renamed_in, defScope s_renamed_in, [], []⟩
def dd_renamed : He.DefD := ⟨("renamed", none), "renamed", "renamed", defArgs s_renamed, defBody s_renamed, defScope s_renamed, [], []⟩
def dd_are_alike : He.DefD := ⟨("are_alike", none), "are_alike", "are_alike", defArgs s_are_alike, defBody s_are_alike, defScope s_are_alike, [], []⟩
def dd_l_roll : He.DefD := ⟨("_law_roll", none), "_law_roll", "_law_roll", defArgs s_l_roll, defBody s_l_roll, defScope s_l_roll, [], []⟩
def dd_l_one_of : He.DefD := ⟨("_law_one_of", none), "_law_one_of", "_law_one_of", defArgs s_l_one_of, defBody s_l_one_of, defScope s_l_one_of, [], []⟩
def dd_l_drawn_row : He.DefD := ⟨("_law_drawn_row", none), "_law_drawn_row", "_law_drawn_row", defArgs s_l_drawn_row, defBody s_l_drawn_row, defScope s_l_drawn_row, [], []⟩
def dd_l_mixed : He.DefD := ⟨("_law_mixed", none), "_law_mixed", "_law_mixed", defArgs s_l_mixed, defBody s_l_mixed, defScope s_l_mixed, [], []⟩
def dd_l_counts : He.DefD := ⟨("_law_counts", none), "_law_counts", "_law_counts", defArgs s_l_counts, defBody s_l_counts, defScope s_l_counts, [], []⟩
def dd_classes_in : He.DefD := ⟨("classes_in", none), "classes_in", "classes_in", defArgs s_classes_in, defBody s_classes_in, defScope s_classes_in, [], []⟩
def dd_classes : He.DefD := ⟨("classes", none), "classes", "classes", defArgs s_classes, defBody s_classes, defScope s_classes, [], []⟩
def dd_spread : He.DefD := ⟨("spread", none), "spread", "spread", defArgs s_spread, defBody s_spread, defScope s_spread, [], []⟩
def dd_l_level_counts : He.DefD := ⟨("_law_level_counts", none), "_law_level_counts", "_law_level_counts", defArgs s_l_level_counts, defBody s_l_level_counts, defScope s_l_level_counts, [], []⟩
def dd_l_counts_right : He.DefD := ⟨("_law_counts_right", none), "_law_counts_right", "_law_counts_right", defArgs s_l_counts_right, defBody s_l_counts_right, defScope s_l_counts_right, [], []⟩
def dd_require_hue : He.DefD := ⟨("require_hue", none), "require_hue", "require_hue", defArgs s_require_hue, defBody s_require_hue, defScope s_require_hue, [], []⟩
def dd_exchanged : He.DefD := ⟨("exchanged", none), "exchanged", "exchanged", defArgs s_exchanged, defBody s_exchanged, defScope s_exchanged, [], []⟩
def dd_l_named : He.DefD := ⟨("_law_named", none), "_law_named", "_law_named", defArgs s_l_named, defBody s_l_named, defScope s_l_named, [], []⟩
def dd_l_right : He.DefD := ⟨("_law_right", none), "_law_right", "_law_right", defArgs s_l_right, defBody s_l_right, defScope s_l_right, [], []⟩
def dd_law : He.DefD := ⟨("law", none), "law", "law", defArgs s_law, defBody s_law, defScope s_law, [], []⟩
def hfn : List He.DefD := [dd_l_dice, dd_is_integer, dd_is_row, dd_require_row, dd_require_hues, dd_require_below, dd_require_both, dd_sizes_in, dd_sizes, dd_is_level, dd_level_sizes_in, dd_level_sizes, dd_is_ascending, dd_are_places, dd_are_parts, dd_row_of, dd_renamed_in, dd_renamed, dd_are_alike, dd_l_roll, dd_l_one_of, dd_l_drawn_row, dd_l_mixed, dd_l_counts, dd_classes_in, dd_classes, dd_spread, dd_l_level_counts, dd_l_counts_right, dd_require_hue, dd_exchanged, dd_l_named, dd_l_right, dd_law]
def hfa : List He.Fa := [.glo "_law_dice", .glo "is_integer", .glo "is_row", .glo "require_row", .glo "require_hues", .glo "require_below", .glo "require_both", .glo "sizes_in", .glo "sizes", .glo "is_level", .glo "level_sizes_in", .glo "level_sizes", .glo "is_ascending", .glo "are_places", .glo "are_parts", .glo "row_of", .glo "renamed_in", .glo "renamed", .glo "are_alike", .glo "_law_roll", .glo "_law_one_of", .glo "_law_drawn_row", .glo "_law_mixed", .glo "_law_counts", .glo "classes_in", .glo "classes", .glo "spread", .glo "_law_level_counts", .glo "_law_counts_right", .glo "require_hue", .glo "exchanged", .glo "_law_named", .glo "_law_right", .glo "law", .int "MOST_PLACES" 20, .free "range", .free "enumerate", .free "zip", .free "len", .free "tuple", .free "list", .free "int", .free "abs", .free "max", .free "min", .free "sum", .free "all", .free "any", .free "sorted", .free "isinstance", .free "dict", .free "set", .free "bool", .free "str", .free "reversed", .free "repr", .free "iter", .free "next"]
abbrev RR : PySem.W.OpenRow := PySem.W.OpenLaw.row PySem.Challenge.rw_levelhues_k01_rows_sizes_and_classes
abbrev hk : PySem.W.Hook := He.hookD 4 hfa hfn
def hob (s : PySem.W.SharedT) : He.AlD := He.obsDG 4 hfa hfn (HandSHeadRun.getT s)
theorem hob_eq (s : PySem.W.SharedT) : hob s = hk.obs s.abs := He.obsDG_eq (HandSHeadRun.getT_eq s)
def hnames0 : List Str := ["HueError", "InvalidRow", "InvalidOperation", "InvalidNumber", "MOST_PLACES", "is_integer", "is_ascending", "are_places", "is_row", "require_row", "require_hues", "require_below", "require_both", "sizes_in", "classes_in", "level_sizes_in", "renamed_in", "sizes", "spread", "is_level", "classes", "are_parts", "row_of", "level_sizes", "require_hue", "exchanged", "renamed", "are_alike", "_law_dice", "_law_roll"]
def hnames1 : List Str := ["_law_one_of", "_law_mixed", "_law_counts", "_law_level_counts", "_law_drawn_row", "_law_named", "_law_counts_right", "_law_right"]
def hnames : List Str := hnames0 ++ hnames1
theorem hrun (w : World) : HandSHeadRun.RunEq RR (PySem.W.view RR.prog [41]) hk hob 4000 hnames w := by
  intro os
  kernel_rfl
theorem hfacts {P : Program} {w : World} {K : PySem.W.Frag} {h base : Heap} {mg : Str → Option Value} (X : K.In h) (Gn : h.Ns mainGlobals mg) (c : He.SaysD hfa hfn K) : Facts ⟨P, w, K, mg, base⟩ where
  bl := ⟨He.free_ok X Gn (c.fact 35 (f := .free "range") rfl), He.free_ok X Gn (c.fact 36 (f := .free "enumerate") rfl), He.free_ok X Gn (c.fact 37 (f := .free "zip") rfl), He.free_ok X Gn (c.fact 38 (f := .free "len") rfl), He.free_ok X Gn (c.fact 39 (f := .free "tuple") rfl), He.free_ok X Gn (c.fact 40 (f := .free "list") rfl), He.free_ok X Gn (c.fact 41 (f := .free "int") rfl), He.free_ok X Gn (c.fact 42 (f := .free "abs") rfl), He.free_ok X Gn (c.fact 43 (f := .free "max") rfl), He.free_ok X Gn (c.fact 44 (f := .free "min") rfl), He.free_ok X Gn (c.fact 45 (f := .free "sum") rfl), He.free_ok X Gn (c.fact 46 (f := .free "all") rfl), He.free_ok X Gn (c.fact 47 (f := .free "any") rfl), He.free_ok X Gn (c.fact 48 (f := .free "sorted") rfl), He.free_ok X Gn (c.fact 49 (f := .free "isinstance") rfl), He.free_ok X Gn (c.fact 50 (f := .free "dict") rfl), He.free_ok X Gn (c.fact 51 (f := .free "set") rfl), He.free_ok X Gn (c.fact 52 (f := .free "bool") rfl), He.free_ok X Gn (c.fact 53 (f := .free "str") rfl), He.free_ok X Gn (c.fact 54 (f := .free "reversed") rfl), He.free_ok X Gn (c.fact 55 (f := .free "repr") rfl), He.free_ok X Gn (c.fact 56 (f := .free "iter") rfl), He.free_ok X Gn (c.fact 57 (f := .free "next") rfl)⟩
  c_MOST_PLACES := let ⟨t, e⟩ := He.int_ok X Gn (c.fact 34 (f := .int "MOST_PLACES" 20) rfl); ⟨_, e, ⟨t, rfl⟩⟩
  f_l_dice := let ⟨fd, F⟩ := c.def_ 0 (d := dd_l_dice) rfl; ⟨_, fd, F, He.glo_ok X Gn (c.fact 0 (f := .glo "_law_dice") rfl)⟩
  f_is_integer := let ⟨fd, F⟩ := c.def_ 1 (d := dd_is_integer) rfl; ⟨_, fd, F, He.glo_ok X Gn (c.fact 1 (f := .glo "is_integer") rfl)⟩
  f_is_row := let ⟨fd, F⟩ := c.def_ 2 (d := dd_is_row) rfl; ⟨_, fd, F, He.glo_ok X Gn (c.fact 2 (f := .glo "is_row") rfl)⟩
  f_require_row := let ⟨fd, F⟩ := c.def_ 3 (d := dd_require_row) rfl; ⟨_, fd, F, He.glo_ok X Gn (c.fact 3 (f := .glo "require_row") rfl)⟩
  f_require_hues := let ⟨fd, F⟩ := c.def_ 4 (d := dd_require_hues) rfl; ⟨_, fd, F, He.glo_ok X Gn (c.fact 4 (f := .glo "require_hues") rfl)⟩
  f_require_below := let ⟨fd, F⟩ := c.def_ 5 (d := dd_require_below) rfl; ⟨_, fd, F, He.glo_ok X Gn (c.fact 5 (f := .glo "require_below") rfl)⟩
  f_require_both := let ⟨fd, F⟩ := c.def_ 6 (d := dd_require_both) rfl; ⟨_, fd, F, He.glo_ok X Gn (c.fact 6 (f := .glo "require_both") rfl)⟩
  f_sizes_in := let ⟨fd, F⟩ := c.def_ 7 (d := dd_sizes_in) rfl; ⟨_, fd, F, He.glo_ok X Gn (c.fact 7 (f := .glo "sizes_in") rfl)⟩
  f_sizes := let ⟨fd, F⟩ := c.def_ 8 (d := dd_sizes) rfl; ⟨_, fd, F, He.glo_ok X Gn (c.fact 8 (f := .glo "sizes") rfl)⟩
  f_is_level := let ⟨fd, F⟩ := c.def_ 9 (d := dd_is_level) rfl; ⟨_, fd, F, He.glo_ok X Gn (c.fact 9 (f := .glo "is_level") rfl)⟩
  f_level_sizes_in := let ⟨fd, F⟩ := c.def_ 10 (d := dd_level_sizes_in) rfl; ⟨_, fd, F, He.glo_ok X Gn (c.fact 10 (f := .glo "level_sizes_in") rfl)⟩
  f_level_sizes := let ⟨fd, F⟩ := c.def_ 11 (d := dd_level_sizes) rfl; ⟨_, fd, F, He.glo_ok X Gn (c.fact 11 (f := .glo "level_sizes") rfl)⟩
  f_is_ascending := let ⟨fd, F⟩ := c.def_ 12 (d := dd_is_ascending) rfl; ⟨_, fd, F, He.glo_ok X Gn (c.fact 12 (f := .glo "is_ascending") rfl)⟩
  f_are_places := let ⟨fd, F⟩ := c.def_ 13 (d := dd_are_places) rfl; ⟨_, fd, F, He.glo_ok X Gn (c.fact 13 (f := .glo "are_places") rfl)⟩
  f_are_parts := let ⟨fd, F⟩ := c.def_ 14 (d := dd_are_parts) rfl; ⟨_, fd, F, He.glo_ok X Gn (c.fact 14 (f := .glo "are_parts") rfl)⟩
  f_row_of := let ⟨fd, F⟩ := c.def_ 15 (d := dd_row_of) rfl; ⟨_, fd, F, He.glo_ok X Gn (c.fact 15 (f := .glo "row_of") rfl)⟩
  f_renamed_in := let ⟨fd, F⟩ := c.def_ 16 (d := dd_renamed_in) rfl; ⟨_, fd, F, He.glo_ok X Gn (c.fact 16 (f := .glo "renamed_in") rfl)⟩
  f_renamed := let ⟨fd, F⟩ := c.def_ 17 (d := dd_renamed) rfl; ⟨_, fd, F, He.glo_ok X Gn (c.fact 17 (f := .glo "renamed") rfl)⟩
  f_are_alike := let ⟨fd, F⟩ := c.def_ 18 (d := dd_are_alike) rfl; ⟨_, fd, F, He.glo_ok X Gn (c.fact 18 (f := .glo "are_alike") rfl)⟩
  f_l_roll := let ⟨fd, F⟩ := c.def_ 19 (d := dd_l_roll) rfl; ⟨_, fd, F, He.glo_ok X Gn (c.fact 19 (f := .glo "_law_roll") rfl)⟩
  f_l_one_of := let ⟨fd, F⟩ := c.def_ 20 (d := dd_l_one_of) rfl; ⟨_, fd, F, He.glo_ok X Gn (c.fact 20 (f := .glo "_law_one_of") rfl)⟩
  f_l_drawn_row := let ⟨fd, F⟩ := c.def_ 21 (d := dd_l_drawn_row) rfl; ⟨_, fd, F, He.glo_ok X Gn (c.fact 21 (f := .glo "_law_drawn_row") rfl)⟩
  f_l_mixed := let ⟨fd, F⟩ := c.def_ 22 (d := dd_l_mixed) rfl; ⟨_, fd, F, He.glo_ok X Gn (c.fact 22 (f := .glo "_law_mixed") rfl)⟩
  f_l_counts := let ⟨fd, F⟩ := c.def_ 23 (d := dd_l_counts) rfl; ⟨_, fd, F, He.glo_ok X Gn (c.fact 23 (f := .glo "_law_counts") rfl)⟩
  f_classes_in := let ⟨fd, F⟩ := c.def_ 24 (d := dd_classes_in) rfl; ⟨_, fd, F, He.glo_ok X Gn (c.fact 24 (f := .glo "classes_in") rfl)⟩
  f_classes := let ⟨fd, F⟩ := c.def_ 25 (d := dd_classes) rfl; ⟨_, fd, F, He.glo_ok X Gn (c.fact 25 (f := .glo "classes") rfl)⟩
  f_spread := let ⟨fd, F⟩ := c.def_ 26 (d := dd_spread) rfl; ⟨_, fd, F, He.glo_ok X Gn (c.fact 26 (f := .glo "spread") rfl)⟩
  f_l_level_counts := let ⟨fd, F⟩ := c.def_ 27 (d := dd_l_level_counts) rfl; ⟨_, fd, F, He.glo_ok X Gn (c.fact 27 (f := .glo "_law_level_counts") rfl)⟩
  f_l_counts_right := let ⟨fd, F⟩ := c.def_ 28 (d := dd_l_counts_right) rfl; ⟨_, fd, F, He.glo_ok X Gn (c.fact 28 (f := .glo "_law_counts_right") rfl)⟩
  f_require_hue := let ⟨fd, F⟩ := c.def_ 29 (d := dd_require_hue) rfl; ⟨_, fd, F, He.glo_ok X Gn (c.fact 29 (f := .glo "require_hue") rfl)⟩
  f_exchanged := let ⟨fd, F⟩ := c.def_ 30 (d := dd_exchanged) rfl; ⟨_, fd, F, He.glo_ok X Gn (c.fact 30 (f := .glo "exchanged") rfl)⟩
  f_l_named := let ⟨fd, F⟩ := c.def_ 31 (d := dd_l_named) rfl; ⟨_, fd, F, He.glo_ok X Gn (c.fact 31 (f := .glo "_law_named") rfl)⟩
  f_l_right := let ⟨fd, F⟩ := c.def_ 32 (d := dd_l_right) rfl; ⟨_, fd, F, He.glo_ok X Gn (c.fact 32 (f := .glo "_law_right") rfl)⟩
  f_law := let ⟨fd, F⟩ := c.def_ 33 (d := dd_law) rfl; ⟨_, fd, F, He.glo_ok X Gn (c.fact 33 (f := .glo "law") rfl)⟩
theorem walked (ht : ∀ ns : List Int, ns.length ≤ 63 → ∃ L, m_law [.ro (ns.map .int)] [] = .ok (.bl true) L) : PySem.Challenge.rw_levelhues_k01_rows_sizes_and_classes.Holds := by
  w_on; o_law
  refine HandSHeadRun.head_any (r := RR) (q := PySem.W.view RR.prog [41]) (H := hk) (ob := hob) (M := 4000) (loose := hnames) (d := HandSHeadRun.topDef RR.prog 41) (kwd := []) hob_eq
    (by kernel_rfl) (fun s => by kernel_rfl) hrun (by kernel_rfl) (by kernel_rfl) (by kernel_rfl) (by rfl) (by first | assumption | decide +kernel) (by decide +kernel) ⟨rfl, rfl, rfl, rfl, rfl, by decide +kernel⟩ ?hw ?hc
  case hw => w_witness2
  case hc =>
    refine L2.walk_ofE (l := PySem.Challenge.rw_levelhues_k01_rows_sizes_and_classes) (n := 63) (k := 8) (x := "_law_script") (CX := CXA RR.prog) rfl (by decide) (by kernel_rfl) ⟨rfl, by decide, by decide⟩ ?F cxa_none
    intro w mg fa h Y G hmg0
    obtain ⟨K, KX, c⟩ := Y
    have hmg : mg ("law" : PySem.Str) = some (.ref fa) := by
      have e : (HandSHeadRun.topDef RR.prog 41).name = ("law" : PySem.Str) := by kernel_rfl
      rw [← e]
      exact hmg0
    obtain ⟨fd, F⟩ := c.def_ 33 (d := dd_law) rfl
    have e := hmg.symm.trans (He.glo_ok KX G (c.fact 33 (f := .glo "law") rfl))
    cases e
    have b := FunD.bindsA (ps := ["_law_script"]) F fun _ _ _ _ _ _ us hl => match us, hl with | [_], _ => rfl
    exact ⟨K, fd, fun vs H Q E => ∀ base, spD ⟨RR.prog, w, K, mg, base⟩ 1 m_law vs H Q E, KX, fun s v => b s [v] rfl, fun H a ns hl _ hS base => law_sp hS (ht ns hl),
      fun base _ _ => fnOk_any (fn_body (G := ⟨RR.prog, w, K, mg, base⟩) (m := m_law) F sc_law (d_law (hfacts KX G c)) fun _ _ _ _ _ _ _ p => p) fun vs H Q E q => q base⟩
end DS
set_option Elab.async false
set_option linter.all false
set_option maxRecDepth 100000
set_option maxHeartbeats 4000000
namespace DS
open PySem PySem.Spec L2
open PyProof.Rows hiding St

abbrev rowD (r : List Int) : D := .tg (r.map .int)
structure IsRow (r : List Int) : Prop where
  l1 : 1 ≤ r.length
  l2 : r.length ≤ 20
  nn : ∀ x ∈ r, 0 ≤ x
theorem is_int_ok (v l m : Int) (L : Sto) : m_is_integer [.int v, .int l, .int m] L = .ok (.bl (decide (l ≤ v) && decide (v ≤ m))) L := by
  by_cases h : v < l
  · simp [m_is_integer, F_is_integer, mOf, fin, startE, List.map_cons, List.map_nil, List.replicate, List.length_cons, List.length_nil, List.cons_append, List.nil_append, sSeq, sIf, sRet, sRetN, sExpr, sSet, sSkip, sBind, sBindB, tOrF, tAndF, tNotF, tTru, truD, tTrue, eVar, eC, e2, e1, en, eCall, aCons, aNil, eIf, eAndF, eOrF, eNotF, asB, eIsi, gIsi, tyOfL, isiB, Tc.ty, gIsN, gNotN, isNonD, gIsB, gNotB, gAdd_int, gSub_int, gDiv_int, gMod_int, gMul_int, gNeg_int, gLt_int, gLe_int, gGt_int, gGe_int, gLtI_int, gLen_tg, gLen_tup, gLen_lst, gLen_ro, gLen_dK, gInt_int, gInt_bl, gAbs_int, gMax_ii, gMin_ii, gTuple_tg, gTuple_tup, lstOut_f, lstOut_t, eChain, eTupG, newTG, eTup, newT, eLst, seqOf_tg, seqOf_tup, seqOf_lst, seqOf_ro, sqlOf_lst, sqlOf_ro, iSeq, iRange1, iRange2, gSet, wipeE, Res.bind_ok, Res.bind_err, Res.bind_bad, List.append_nil, h, Int.not_le.mpr h]
  · simp [m_is_integer, F_is_integer, mOf, fin, startE, List.map_cons, List.map_nil, List.replicate, List.length_cons, List.length_nil, List.cons_append, List.nil_append, sSeq, sIf, sRet, sRetN, sExpr, sSet, sSkip, sBind, sBindB, tOrF, tAndF, tNotF, tTru, truD, tTrue, eVar, eC, e2, e1, en, eCall, aCons, aNil, eIf, eAndF, eOrF, eNotF, asB, eIsi, gIsi, tyOfL, isiB, Tc.ty, gIsN, gNotN, isNonD, gIsB, gNotB, gAdd_int, gSub_int, gDiv_int, gMod_int, gMul_int, gNeg_int, gLt_int, gLe_int, gGt_int, gGe_int, gLtI_int, gLen_tg, gLen_tup, gLen_lst, gLen_ro, gLen_dK, gInt_int, gInt_bl, gAbs_int, gMax_ii, gMin_ii, gTuple_tg, gTuple_tup, lstOut_f, lstOut_t, eChain, eTupG, newTG, eTup, newT, eLst, seqOf_tg, seqOf_tup, seqOf_lst, seqOf_ro, sqlOf_lst, sqlOf_ro, iSeq, iRange1, iRange2, gSet, wipeE, Res.bind_ok, Res.bind_err, Res.bind_bad, List.append_nil, h, Int.not_lt.mp h]
theorem is_int_non (v l : Int) (L : Sto) : m_is_integer [.int v, .int l, .non] L = .ok (.bl (decide (l ≤ v))) L := by
  by_cases h : v < l
  · simp [m_is_integer, F_is_integer, mOf, fin, startE, List.map_cons, List.map_nil, List.replicate, List.length_cons, List.length_nil, List.cons_append, List.nil_append, sSeq, sIf, sRet, sRetN, sExpr, sSet, sSkip, sBind, sBindB, tOrF, tAndF, tNotF, tTru, truD, tTrue, eVar, eC, e2, e1, en, eCall, aCons, aNil, eIf, eAndF, eOrF, eNotF, asB, eIsi, gIsi, tyOfL, isiB, Tc.ty, gIsN, gNotN, isNonD, gIsB, gNotB, gAdd_int, gSub_int, gDiv_int, gMod_int, gMul_int, gNeg_int, gLt_int, gLe_int, gGt_int, gGe_int, gLtI_int, gLen_tg, gLen_tup, gLen_lst, gLen_ro, gLen_dK, gInt_int, gInt_bl, gAbs_int, gMax_ii, gMin_ii, gTuple_tg, gTuple_tup, lstOut_f, lstOut_t, eChain, eTupG, newTG, eTup, newT, eLst, seqOf_tg, seqOf_tup, seqOf_lst, seqOf_ro, sqlOf_lst, sqlOf_ro, iSeq, iRange1, iRange2, gSet, wipeE, Res.bind_ok, Res.bind_err, Res.bind_bad, List.append_nil, h, Int.not_le.mpr h]
  · simp [m_is_integer, F_is_integer, mOf, fin, startE, List.map_cons, List.map_nil, List.replicate, List.length_cons, List.length_nil, List.cons_append, List.nil_append, sSeq, sIf, sRet, sRetN, sExpr, sSet, sSkip, sBind, sBindB, tOrF, tAndF, tNotF, tTru, truD, tTrue, eVar, eC, e2, e1, en, eCall, aCons, aNil, eIf, eAndF, eOrF, eNotF, asB, eIsi, gIsi, tyOfL, isiB, Tc.ty, gIsN, gNotN, isNonD, gIsB, gNotB, gAdd_int, gSub_int, gDiv_int, gMod_int, gMul_int, gNeg_int, gLt_int, gLe_int, gGt_int, gGe_int, gLtI_int, gLen_tg, gLen_tup, gLen_lst, gLen_ro, gLen_dK, gInt_int, gInt_bl, gAbs_int, gMax_ii, gMin_ii, gTuple_tg, gTuple_tup, lstOut_f, lstOut_t, eChain, eTupG, newTG, eTup, newT, eLst, seqOf_tg, seqOf_tup, seqOf_lst, seqOf_ro, sqlOf_lst, sqlOf_ro, iSeq, iRange1, iRange2, gSet, wipeE, Res.bind_ok, Res.bind_err, Res.bind_bad, List.append_nil, h, Int.not_lt.mp h]
theorem c1_is_row (r : List Int) (hl : r.length ≤ 16777216) (L : Sto) : C1_is_row [some (rowD r), none] L = .ok (.lst (r.map fun x => D.bl (decide (0 ≤ x)))) L := by
  refine eLc_map r D.int _ (src := []) (L1 := L) rfl srcOk_nil hl fun a _ => ⟨_, rfl, ?_⟩
  simp [mOf, fin, startE, List.map_cons, List.map_nil, List.replicate, List.length_cons, List.length_nil, List.cons_append, List.nil_append, sSeq, sIf, sRet, sRetN, sExpr, sSet, sSkip, sBind, sBindB, tOrF, tAndF, tNotF, tTru, truD, tTrue, eVar, eC, e2, e1, en, eCall, aCons, aNil, eIf, eAndF, eOrF, eNotF, asB, eIsi, gIsi, tyOfL, isiB, Tc.ty, gIsN, gNotN, isNonD, gIsB, gNotB, gAdd_int, gSub_int, gDiv_int, gMod_int, gMul_int, gNeg_int, gLt_int, gLe_int, gGt_int, gGe_int, gLtI_int, gLen_tg, gLen_tup, gLen_lst, gLen_ro, gLen_dK, gInt_int, gInt_bl, gAbs_int, gMax_ii, gMin_ii, gTuple_tg, gTuple_tup, lstOut_f, lstOut_t, eChain, eTupG, newTG, eTup, newT, eLst, seqOf_tg, seqOf_tup, seqOf_lst, seqOf_ro, sqlOf_lst, sqlOf_ro, iSeq, iRange1, iRange2, gSet, wipeE, Res.bind_ok, Res.bind_err, Res.bind_bad, List.append_nil, is_int_non]
theorem is_row_ok {r : List Int} (h : IsRow r) (L : Sto) : m_is_row [rowD r] L = .ok (.bl true) L := by
  have h1 : (1 : Int) ≤ (r.length : Int) := by have := h.l1; omega
  have h2 : (r.length : Int) ≤ 20 := by have := h.l2; omega
  have e := c1_is_row r (by have := h.l2; omega) L
  have e2 : r.all (fun x => decide (0 ≤ x)) = true := List.all_eq_true.mpr fun x hx => decide_eq_true (h.nn x hx)
  have hg := gAll_map (L := L) r (fun x => decide (0 ≤ x))
  rw [e2] at hg
  simp [m_is_row, F_is_row, mOf, fin, startE, List.map_cons, List.map_nil, List.replicate, List.length_cons, List.length_nil, List.cons_append, List.nil_append, sSeq, sIf, sRet, sRetN, sExpr, sSet, sSkip, sBind, sBindB, tOrF, tAndF, tNotF, tTru, truD, tTrue, eVar, eC, e2, e1, en, eCall, aCons, aNil, eIf, eAndF, eOrF, eNotF, asB, eIsi, gIsi, tyOfL, isiB, Tc.ty, gIsN, gNotN, isNonD, gIsB, gNotB, gAdd_int, gSub_int, gDiv_int, gMod_int, gMul_int, gNeg_int, gLt_int, gLe_int, gGt_int, gGe_int, gLtI_int, gLen_tg, gLen_tup, gLen_lst, gLen_ro, gLen_dK, gInt_int, gInt_bl, gAbs_int, gMax_ii, gMin_ii, gTuple_tg, gTuple_tup, lstOut_f, lstOut_t, eChain, eTupG, newTG, eTup, newT, eLst, seqOf_tg, seqOf_tup, seqOf_lst, seqOf_ro, sqlOf_lst, sqlOf_ro, iSeq, iRange1, iRange2, gSet, wipeE, Res.bind_ok, Res.bind_err, Res.bind_bad, List.append_nil, h1, h2]
  simp [mOf, fin, startE, List.map_cons, List.map_nil, List.replicate, List.length_cons, List.length_nil, List.cons_append, List.nil_append, sSeq, sIf, sRet, sRetN, sExpr, sSet, sSkip, sBind, sBindB, tOrF, tAndF, tNotF, tTru, truD, tTrue, eVar, eC, e2, e1, en, eCall, aCons, aNil, eIf, eAndF, eOrF, eNotF, asB, eIsi, gIsi, tyOfL, isiB, Tc.ty, gIsN, gNotN, isNonD, gIsB, gNotB, gAdd_int, gSub_int, gDiv_int, gMod_int, gMul_int, gNeg_int, gLt_int, gLe_int, gGt_int, gGe_int, gLtI_int, gLen_tg, gLen_tup, gLen_lst, gLen_ro, gLen_dK, gInt_int, gInt_bl, gAbs_int, gMax_ii, gMin_ii, gTuple_tg, gTuple_tup, lstOut_f, lstOut_t, eChain, eTupG, newTG, eTup, newT, eLst, seqOf_tg, seqOf_tup, seqOf_lst, seqOf_ro, sqlOf_lst, sqlOf_ro, iSeq, iRange1, iRange2, gSet, wipeE, Res.bind_ok, Res.bind_err, Res.bind_bad, List.append_nil, e, hg]
/-! ### rows and numbers of hues -/
structure HRow (r : List Int) (h : Int) : Prop extends IsRow r where
  h1 : 1 ≤ h
  h2 : h ≤ 20
  lt : ∀ x ∈ r, x < h
theorem require_row_ok {r : List Int} (h : IsRow r) (L : Sto) : m_require_row [rowD r] L = .ok .non L := by
  simp [m_require_row, F_require_row, mOf, fin, startE, List.map_cons, List.map_nil, List.replicate, List.length_cons, List.length_nil, List.cons_append, List.nil_append, sSeq, sIf, sRet, sRetN, sExpr, sSet, sSkip, sBind, sBindB, tOrF, tAndF, tNotF, tTru, truD, tTrue, eVar, eC, e2, e1, en, eCall, aCons, aNil, eIf, eAndF, eOrF, eNotF, asB, eIsi, gIsi, tyOfL, isiB, Tc.ty, gIsN, gNotN, isNonD, gIsB, gNotB, gAdd_int, gSub_int, gDiv_int, gMod_int, gMul_int, gNeg_int, gLt_int, gLe_int, gGt_int, gGe_int, gLtI_int, gLen_tg, gLen_tup, gLen_lst, gLen_ro, gLen_dK, gInt_int, gInt_bl, gAbs_int, gMax_ii, gMin_ii, gTuple_tg, gTuple_tup, lstOut_f, lstOut_t, eChain, eTupG, newTG, eTup, newT, eLst, seqOf_tg, seqOf_tup, seqOf_lst, seqOf_ro, sqlOf_lst, sqlOf_ro, iSeq, iRange1, iRange2, gSet, wipeE, Res.bind_ok, Res.bind_err, Res.bind_bad, List.append_nil, is_row_ok h L]
theorem require_hues_ok {h : Int} (h1 : 1 ≤ h) (h2 : h ≤ 20) (L : Sto) : m_require_hues [.int h] L = .ok .non L := by
  simp [m_require_hues, F_require_hues, mOf, fin, startE, List.map_cons, List.map_nil, List.replicate, List.length_cons, List.length_nil, List.cons_append, List.nil_append, sSeq, sIf, sRet, sRetN, sExpr, sSet, sSkip, sBind, sBindB, tOrF, tAndF, tNotF, tTru, truD, tTrue, eVar, eC, e2, e1, en, eCall, aCons, aNil, eIf, eAndF, eOrF, eNotF, asB, eIsi, gIsi, tyOfL, isiB, Tc.ty, gIsN, gNotN, isNonD, gIsB, gNotB, gAdd_int, gSub_int, gDiv_int, gMod_int, gMul_int, gNeg_int, gLt_int, gLe_int, gGt_int, gGe_int, gLtI_int, gLen_tg, gLen_tup, gLen_lst, gLen_ro, gLen_dK, gInt_int, gInt_bl, gAbs_int, gMax_ii, gMin_ii, gTuple_tg, gTuple_tup, lstOut_f, lstOut_t, eChain, eTupG, newTG, eTup, newT, eLst, seqOf_tg, seqOf_tup, seqOf_lst, seqOf_ro, sqlOf_lst, sqlOf_ro, iSeq, iRange1, iRange2, gSet, wipeE, Res.bind_ok, Res.bind_err, Res.bind_bad, List.append_nil, is_int_ok, h1, h2]
theorem c1_below (r : List Int) (h : Int) (hl : r.length ≤ 16777216) (L : Sto) : C1_require_below [some (rowD r), some (.int h), none] L = .ok (.lst (r.map fun x => D.bl (decide (x < h)))) L := by
  refine eLc_map r D.int _ (src := []) (L1 := L) rfl srcOk_nil hl fun a _ => ⟨_, rfl, ?_⟩
  simp [mOf, fin, startE, List.map_cons, List.map_nil, List.replicate, List.length_cons, List.length_nil, List.cons_append, List.nil_append, sSeq, sIf, sRet, sRetN, sExpr, sSet, sSkip, sBind, sBindB, tOrF, tAndF, tNotF, tTru, truD, tTrue, eVar, eC, e2, e1, en, eCall, aCons, aNil, eIf, eAndF, eOrF, eNotF, asB, eIsi, gIsi, tyOfL, isiB, Tc.ty, gIsN, gNotN, isNonD, gIsB, gNotB, gAdd_int, gSub_int, gDiv_int, gMod_int, gMul_int, gNeg_int, gLt_int, gLe_int, gGt_int, gGe_int, gLtI_int, gLen_tg, gLen_tup, gLen_lst, gLen_ro, gLen_dK, gInt_int, gInt_bl, gAbs_int, gMax_ii, gMin_ii, gTuple_tg, gTuple_tup, lstOut_f, lstOut_t, eChain, eTupG, newTG, eTup, newT, eLst, seqOf_tg, seqOf_tup, seqOf_lst, seqOf_ro, sqlOf_lst, sqlOf_ro, iSeq, iRange1, iRange2, gSet, wipeE, Res.bind_ok, Res.bind_err, Res.bind_bad, List.append_nil]
theorem require_below_ok {r : List Int} {h : Int} (hr : HRow r h) (L : Sto) : m_require_below [rowD r, .int h] L = .ok .non L := by
  have e := c1_below r h (by have := hr.l2; omega) L
  have e2 : r.all (fun x => decide (x < h)) = true := List.all_eq_true.mpr fun x hx => decide_eq_true (hr.lt x hx)
  have hg := gAll_map (L := L) r (fun x => decide (x < h))
  rw [e2] at hg
  simp [m_require_below, F_require_below, mOf, fin, startE, List.map_cons, List.map_nil, List.replicate, List.length_cons, List.length_nil, List.cons_append, List.nil_append, sSeq, sIf, sRet, sRetN, sExpr, sSet, sSkip, sBind, sBindB, tOrF, tAndF, tNotF, tTru, truD, tTrue, eVar, eC, e2, e1, en, eCall, aCons, aNil, eIf, eAndF, eOrF, eNotF, asB, eIsi, gIsi, tyOfL, isiB, Tc.ty, gIsN, gNotN, isNonD, gIsB, gNotB, gAdd_int, gSub_int, gDiv_int, gMod_int, gMul_int, gNeg_int, gLt_int, gLe_int, gGt_int, gGe_int, gLtI_int, gLen_tg, gLen_tup, gLen_lst, gLen_ro, gLen_dK, gInt_int, gInt_bl, gAbs_int, gMax_ii, gMin_ii, gTuple_tg, gTuple_tup, lstOut_f, lstOut_t, eChain, eTupG, newTG, eTup, newT, eLst, seqOf_tg, seqOf_tup, seqOf_lst, seqOf_ro, sqlOf_lst, sqlOf_ro, iSeq, iRange1, iRange2, gSet, wipeE, Res.bind_ok, Res.bind_err, Res.bind_bad, List.append_nil, e, hg]
theorem require_both_ok {r : List Int} {h : Int} (hr : HRow r h) (L : Sto) : m_require_both [rowD r, .int h] L = .ok .non L := by
  simp [m_require_both, F_require_both, mOf, fin, startE, List.map_cons, List.map_nil, List.replicate, List.length_cons, List.length_nil, List.cons_append, List.nil_append, sSeq, sIf, sRet, sRetN, sExpr, sSet, sSkip, sBind, sBindB, tOrF, tAndF, tNotF, tTru, truD, tTrue, eVar, eC, e2, e1, en, eCall, aCons, aNil, eIf, eAndF, eOrF, eNotF, asB, eIsi, gIsi, tyOfL, isiB, Tc.ty, gIsN, gNotN, isNonD, gIsB, gNotB, gAdd_int, gSub_int, gDiv_int, gMod_int, gMul_int, gNeg_int, gLt_int, gLe_int, gGt_int, gGe_int, gLtI_int, gLen_tg, gLen_tup, gLen_lst, gLen_ro, gLen_dK, gInt_int, gInt_bl, gAbs_int, gMax_ii, gMin_ii, gTuple_tg, gTuple_tup, lstOut_f, lstOut_t, eChain, eTupG, newTG, eTup, newT, eLst, seqOf_tg, seqOf_tup, seqOf_lst, seqOf_ro, sqlOf_lst, sqlOf_ro, iSeq, iRange1, iRange2, gSet, wipeE, Res.bind_ok, Res.bind_err, Res.bind_bad, List.append_nil, require_row_ok hr.toIsRow, require_hues_ok hr.h1 hr.h2, require_below_ok hr]
theorem small62_of {i : Int} (h1 : -1000000 ≤ i) (h2 : i ≤ 1000000) : small62 i = true := decide_eq_true ⟨by omega, by omega⟩
def natD (i : Nat) : D := .int (i : Int)
theorem rangeD0 (n : Nat) : rangeD 0 n = (List.range n).map natD := by
  unfold rangeD natD
  exact List.map_congr_left fun i _ => by rw [Int.zero_add]
theorem range1_ev {fl : AF} {ρ : Env'} {L L1 : Sto} {n : Int} (h : fl ρ L = .ok [.int n] L1) (h1 : -1000000 ≤ n) (h2 : n ≤ 1000000) : iRange1 fl ρ L = .ok ⟨(List.range n.toNat).map natD, []⟩ L1 := by
  unfold iRange1
  rw [h]
  dsimp only [Res.bind]
  rw [if_pos (small62_of h1 h2), rangeD0]
/-- how often each hue comes -/
def cnt (r : List Int) (h : Int) : List Int := (List.range h.toNat).map fun (i : Nat) => ((r.count (i : Int) : Nat) : Int)
theorem c1_sizes_in {r : List Int} {h : Int} (h1 : 0 ≤ h) (h2 : h ≤ 20) (L : Sto) : C1_sizes_in [some (rowD r), some (.int h), none] L = .ok (.lst ((cnt r h).map .int)) L := by
  have e := eLc_map (own := [2]) (tg := gSet 2) (f := eCm gCount (eVar 0) (aCons (eVar 2) aNil)) (box := false) (List.range h.toNat) natD (fun (i : Nat) => D.int ((r.count (i : Int) : Nat) : Int))
    (range1_ev (fl := aCons (eVar 1) aNil) (ρ := [some (rowD r), some (.int h), none]) (L := L) rfl (by omega) (by omega)) srcOk_nil (by rw [List.length_range]; omega) fun a _ => ⟨_, rfl, ?_⟩
  · unfold cnt
    rw [List.map_map]
    exact e
  · simp [eCm, gCount, gTCount, isG, dInts_map, natD, mOf, fin, startE, List.map_cons, List.map_nil, List.replicate, List.length_cons, List.length_nil, List.cons_append, List.nil_append, sSeq, sIf, sRet, sRetN, sExpr, sSet, sSkip, sBind, sBindB, tOrF, tAndF, tNotF, tTru, truD, tTrue, eVar, eC, e2, e1, en, eCall, aCons, aNil, eIf, eAndF, eOrF, eNotF, asB, eIsi, gIsi, tyOfL, isiB, Tc.ty, gIsN, gNotN, isNonD, gIsB, gNotB, gAdd_int, gSub_int, gDiv_int, gMod_int, gMul_int, gNeg_int, gLt_int, gLe_int, gGt_int, gGe_int, gLtI_int, gLen_tg, gLen_tup, gLen_lst, gLen_ro, gLen_dK, gInt_int, gInt_bl, gAbs_int, gMax_ii, gMin_ii, gTuple_tg, gTuple_tup, lstOut_f, lstOut_t, eChain, eTupG, newTG, eTup, newT, eLst, seqOf_tg, seqOf_tup, seqOf_lst, seqOf_ro, sqlOf_lst, sqlOf_ro, iSeq, iRange1, iRange2, gSet, wipeE, Res.bind_ok, Res.bind_err, Res.bind_bad, List.append_nil]
theorem sizes_in_ok {r : List Int} {h : Int} (h1 : 0 ≤ h) (h2 : h ≤ 20) (L : Sto) : m_sizes_in [rowD r, .int h] L = .ok (.lst ((cnt r h).map .int)) L := by
  simp [m_sizes_in, F_sizes_in, mOf, fin, startE, List.map_cons, List.map_nil, List.replicate, List.length_cons, List.length_nil, List.cons_append, List.nil_append, sSeq, sIf, sRet, sRetN, sExpr, sSet, sSkip, sBind, sBindB, tOrF, tAndF, tNotF, tTru, truD, tTrue, eVar, eC, e2, e1, en, eCall, aCons, aNil, eIf, eAndF, eOrF, eNotF, asB, eIsi, gIsi, tyOfL, isiB, Tc.ty, gIsN, gNotN, isNonD, gIsB, gNotB, gAdd_int, gSub_int, gDiv_int, gMod_int, gMul_int, gNeg_int, gLt_int, gLe_int, gGt_int, gGe_int, gLtI_int, gLen_tg, gLen_tup, gLen_lst, gLen_ro, gLen_dK, gInt_int, gInt_bl, gAbs_int, gMax_ii, gMin_ii, gTuple_tg, gTuple_tup, lstOut_f, lstOut_t, eChain, eTupG, newTG, eTup, newT, eLst, seqOf_tg, seqOf_tup, seqOf_lst, seqOf_ro, sqlOf_lst, sqlOf_ro, iSeq, iRange1, iRange2, gSet, wipeE, Res.bind_ok, Res.bind_err, Res.bind_bad, List.append_nil, c1_sizes_in h1 h2]
theorem cnt_length (r : List Int) (h : Int) : (cnt r h).length = h.toNat := by unfold cnt; simp
theorem sizes_ok {r : List Int} {h : Int} (hr : HRow r h) (L : Sto) : m_sizes [rowD r, .int h] L = .ok (rowD (cnt r h)) L := by
  have h1 := hr.h1
  have h2 := hr.h2
  have hl : ((cnt r h).map D.int).length ≤ 16777216 := by rw [List.length_map, cnt_length]; omega
  simp [m_sizes, F_sizes, mOf, fin, startE, List.map_cons, List.map_nil, List.replicate, List.length_cons, List.length_nil, List.cons_append, List.nil_append, sSeq, sIf, sRet, sRetN, sExpr, sSet, sSkip, sBind, sBindB, tOrF, tAndF, tNotF, tTru, truD, tTrue, eVar, eC, e2, e1, en, eCall, aCons, aNil, eIf, eAndF, eOrF, eNotF, asB, eIsi, gIsi, tyOfL, isiB, Tc.ty, gIsN, gNotN, isNonD, gIsB, gNotB, gAdd_int, gSub_int, gDiv_int, gMod_int, gMul_int, gNeg_int, gLt_int, gLe_int, gGt_int, gGe_int, gLtI_int, gLen_tg, gLen_tup, gLen_lst, gLen_ro, gLen_dK, gInt_int, gInt_bl, gAbs_int, gMax_ii, gMin_ii, gTuple_tg, gTuple_tup, lstOut_f, lstOut_t, eChain, eTupG, newTG, eTup, newT, eLst, seqOf_tg, seqOf_tup, seqOf_lst, seqOf_ro, sqlOf_lst, sqlOf_ro, iSeq, iRange1, iRange2, gSet, wipeE, Res.bind_ok, Res.bind_err, Res.bind_bad, List.append_nil, require_both_ok hr, sizes_in_ok (r := r) (by omega : 0 ≤ h) h2, gTuple_lst hl]
def mx (ns : List Int) : Int := (ns.max?).getD 0
def mn (ns : List Int) : Int := (ns.min?).getD 0
theorem gMax_ints {ns : List Int} (h : ns ≠ []) (L : Sto) : gMax [.lst (ns.map .int)] L = .ok (.int (mx ns)) L := by
  unfold gMax
  simp only [sqlOf_lst, dInts_map]
  unfold mx
  cases q : ns.max? with
  | none => exact absurd (List.max?_eq_none_iff.mp q) h
  | some m => rfl
theorem gMin_ints {ns : List Int} (h : ns ≠ []) (L : Sto) : gMin [.lst (ns.map .int)] L = .ok (.int (mn ns)) L := by
  unfold gMin
  simp only [sqlOf_lst, dInts_map]
  unfold mn
  cases q : ns.min? with
  | none => exact absurd (List.min?_eq_none_iff.mp q) h
  | some m => rfl
theorem cnt_ne {r : List Int} {h : Int} (h1 : 1 ≤ h) : cnt r h ≠ [] := fun e => by
  have := cnt_length r h
  rw [e] at this
  simp at this
  omega
def sprd (r : List Int) (h : Int) : Int := mx (cnt r h) - mn (cnt r h)
theorem spread_ok {r : List Int} {h : Int} (hr : HRow r h) (L : Sto) : m_spread [rowD r, .int h] L = .ok (.int (sprd r h)) L := by
  have h1 := hr.h1
  simp [m_spread, F_spread, mOf, fin, startE, List.map_cons, List.map_nil, List.replicate, List.length_cons, List.length_nil, List.cons_append, List.nil_append, sSeq, sIf, sRet, sRetN, sExpr, sSet, sSkip, sBind, sBindB, tOrF, tAndF, tNotF, tTru, truD, tTrue, eVar, eC, e2, e1, en, eCall, aCons, aNil, eIf, eAndF, eOrF, eNotF, asB, eIsi, gIsi, tyOfL, isiB, Tc.ty, gIsN, gNotN, isNonD, gIsB, gNotB, gAdd_int, gSub_int, gDiv_int, gMod_int, gMul_int, gNeg_int, gLt_int, gLe_int, gGt_int, gGe_int, gLtI_int, gLen_tg, gLen_tup, gLen_lst, gLen_ro, gLen_dK, gInt_int, gInt_bl, gAbs_int, gMax_ii, gMin_ii, gTuple_tg, gTuple_tup, lstOut_f, lstOut_t, eChain, eTupG, newTG, eTup, newT, eLst, seqOf_tg, seqOf_tup, seqOf_lst, seqOf_ro, sqlOf_lst, sqlOf_ro, iSeq, iRange1, iRange2, gSet, wipeE, Res.bind_ok, Res.bind_err, Res.bind_bad, List.append_nil, require_both_ok hr, sizes_in_ok (r := r) (by omega : 0 ≤ h) hr.h2, gMax_ints (cnt_ne h1), gMin_ints (cnt_ne h1), sprd]
theorem is_level_ok {r : List Int} {h : Int} (hr : HRow r h) (L : Sto) : m_is_level [rowD r, .int h] L = .ok (.bl (decide (sprd r h < 2))) L := by
  have h1 := hr.h1
  simp [m_is_level, F_is_level, mOf, fin, startE, List.map_cons, List.map_nil, List.replicate, List.length_cons, List.length_nil, List.cons_append, List.nil_append, sSeq, sIf, sRet, sRetN, sExpr, sSet, sSkip, sBind, sBindB, tOrF, tAndF, tNotF, tTru, truD, tTrue, eVar, eC, e2, e1, en, eCall, aCons, aNil, eIf, eAndF, eOrF, eNotF, asB, eIsi, gIsi, tyOfL, isiB, Tc.ty, gIsN, gNotN, isNonD, gIsB, gNotB, gAdd_int, gSub_int, gDiv_int, gMod_int, gMul_int, gNeg_int, gLt_int, gLe_int, gGt_int, gGe_int, gLtI_int, gLen_tg, gLen_tup, gLen_lst, gLen_ro, gLen_dK, gInt_int, gInt_bl, gAbs_int, gMax_ii, gMin_ii, gTuple_tg, gTuple_tup, lstOut_f, lstOut_t, eChain, eTupG, newTG, eTup, newT, eLst, seqOf_tg, seqOf_tup, seqOf_lst, seqOf_ro, sqlOf_lst, sqlOf_ro, iSeq, iRange1, iRange2, gSet, wipeE, Res.bind_ok, Res.bind_err, Res.bind_bad, List.append_nil, require_both_ok hr, sizes_in_ok (r := r) (by omega : 0 ≤ h) hr.h2, gMax_ints (cnt_ne h1), gMin_ints (cnt_ne h1)]
  rfl
/-- the sizes of a level row -/
def lvl (s h : Int) : List Int := (List.range h.toNat).map fun (i : Nat) => s / h + (if (i : Int) < s % h then 1 else 0)
theorem level_sizes_in_ok {s h : Int} (h1 : 1 ≤ h) (h2 : h ≤ 20) (L : Sto) : m_level_sizes_in [.int s, .int h] L = .ok (.lst ((lvl s h).map .int)) L := by
  have e := eLc_map (own := [2]) (tg := gSet 2) (f := e2 gAdd (e2 gDiv (eVar 0) (eVar 1)) (en gInt (aCons (e2 gLt (eVar 2) (e2 gMod (eVar 0) (eVar 1))) aNil))) (box := false) (List.range h.toNat) natD (fun (i : Nat) => D.int (s / h + (if (i : Int) < s % h then 1 else 0)))
    (range1_ev (fl := aCons (eVar 1) aNil) (ρ := [some (.int s), some (.int h), none]) (L := L) rfl (by omega) (by omega)) srcOk_nil (by rw [List.length_range]; omega) fun a _ => ⟨_, rfl, ?_⟩
  · have e' : C1_level_sizes_in [some (.int s), some (.int h), none] L = .ok (.lst ((lvl s h).map .int)) L := by
      unfold lvl
      rw [List.map_map]
      exact e
    simp [m_level_sizes_in, F_level_sizes_in, mOf, fin, startE, List.map_cons, List.map_nil, List.replicate, List.length_cons, List.length_nil, List.cons_append, List.nil_append, sSeq, sIf, sRet, sRetN, sExpr, sSet, sSkip, sBind, sBindB, tOrF, tAndF, tNotF, tTru, truD, tTrue, eVar, eC, e2, e1, en, eCall, aCons, aNil, eIf, eAndF, eOrF, eNotF, asB, eIsi, gIsi, tyOfL, isiB, Tc.ty, gIsN, gNotN, isNonD, gIsB, gNotB, gAdd_int, gSub_int, gDiv_int, gMod_int, gMul_int, gNeg_int, gLt_int, gLe_int, gGt_int, gGe_int, gLtI_int, gLen_tg, gLen_tup, gLen_lst, gLen_ro, gLen_dK, gInt_int, gInt_bl, gAbs_int, gMax_ii, gMin_ii, gTuple_tg, gTuple_tup, lstOut_f, lstOut_t, eChain, eTupG, newTG, eTup, newT, eLst, seqOf_tg, seqOf_tup, seqOf_lst, seqOf_ro, sqlOf_lst, sqlOf_ro, iSeq, iRange1, iRange2, gSet, wipeE, Res.bind_ok, Res.bind_err, Res.bind_bad, List.append_nil, e']
  · have hp : 0 < h := by omega
    have hq : h < 2 ^ 64 := by omega
    simp [natD, mOf, fin, startE, List.map_cons, List.map_nil, List.replicate, List.length_cons, List.length_nil, List.cons_append, List.nil_append, sSeq, sIf, sRet, sRetN, sExpr, sSet, sSkip, sBind, sBindB, tOrF, tAndF, tNotF, tTru, truD, tTrue, eVar, eC, e2, e1, en, eCall, aCons, aNil, eIf, eAndF, eOrF, eNotF, asB, eIsi, gIsi, tyOfL, isiB, Tc.ty, gIsN, gNotN, isNonD, gIsB, gNotB, gAdd_int, gSub_int, gDiv_int, gMod_int, gMul_int, gNeg_int, gLt_int, gLe_int, gGt_int, gGe_int, gLtI_int, gLen_tg, gLen_tup, gLen_lst, gLen_ro, gLen_dK, gInt_int, gInt_bl, gAbs_int, gMax_ii, gMin_ii, gTuple_tg, gTuple_tup, lstOut_f, lstOut_t, eChain, eTupG, newTG, eTup, newT, eLst, seqOf_tg, seqOf_tup, seqOf_lst, seqOf_ro, sqlOf_lst, sqlOf_ro, iSeq, iRange1, iRange2, gSet, wipeE, Res.bind_ok, Res.bind_err, Res.bind_bad, List.append_nil, gDiv_int hp hq, gMod_int hp]
theorem lvl_length (s h : Int) : (lvl s h).length = h.toNat := by unfold lvl; simp
theorem level_sizes_ok {s h : Int} (s1 : 1 ≤ s) (s2 : s ≤ 20) (h1 : 1 ≤ h) (h2 : h ≤ 20) (L : Sto) : m_level_sizes [.int s, .int h] L = .ok (rowD (lvl s h)) L := by
  have hl : ((lvl s h).map D.int).length ≤ 16777216 := by rw [List.length_map, lvl_length]; omega
  simp [m_level_sizes, F_level_sizes, mOf, fin, startE, List.map_cons, List.map_nil, List.replicate, List.length_cons, List.length_nil, List.cons_append, List.nil_append, sSeq, sIf, sRet, sRetN, sExpr, sSet, sSkip, sBind, sBindB, tOrF, tAndF, tNotF, tTru, truD, tTrue, eVar, eC, e2, e1, en, eCall, aCons, aNil, eIf, eAndF, eOrF, eNotF, asB, eIsi, gIsi, tyOfL, isiB, Tc.ty, gIsN, gNotN, isNonD, gIsB, gNotB, gAdd_int, gSub_int, gDiv_int, gMod_int, gMul_int, gNeg_int, gLt_int, gLe_int, gGt_int, gGe_int, gLtI_int, gLen_tg, gLen_tup, gLen_lst, gLen_ro, gLen_dK, gInt_int, gInt_bl, gAbs_int, gMax_ii, gMin_ii, gTuple_tg, gTuple_tup, lstOut_f, lstOut_t, eChain, eTupG, newTG, eTup, newT, eLst, seqOf_tg, seqOf_tup, seqOf_lst, seqOf_ro, sqlOf_lst, sqlOf_ro, iSeq, iRange1, iRange2, gSet, wipeE, Res.bind_ok, Res.bind_err, Res.bind_bad, List.append_nil, require_hues_ok s1 s2, require_hues_ok h1 h2, level_sizes_in_ok h1 h2, gTuple_lst hl]
/-- the law's own way of saying it -/
theorem lvl_law {s h : Int} (s0 : 0 ≤ s) (h1 : 1 ≤ h) (i : Nat) (hi : (i : Int) < h) : (s + h - 1 - i) / h = s / h + (if (i : Int) < s % h then 1 else 0) := by
  have e := Int.mul_ediv_add_emod s h
  have m0 := Int.emod_nonneg s (by omega : h ≠ 0)
  have m1 := Int.emod_lt_of_pos s (by omega : 0 < h)
  generalize hq : s / h = q at e ⊢
  generalize hm : s % h = m at e m0 m1 ⊢
  have e2 : s + h - 1 - i = (m + h - 1 - i) + h * q := by omega
  rw [e2, Int.add_mul_ediv_left _ _ (by omega : h ≠ 0)]
  split
  · rename_i hlt
    have : (m + h - 1 - i) / h = 1 := by
      have e3 : m + h - 1 - i = (m - 1 - i) + h * 1 := by omega
      rw [e3, Int.add_mul_ediv_left _ _ (by omega : h ≠ 0), Int.ediv_eq_zero_of_lt (by omega) (by omega)]
      rfl
    omega
  · have : (m + h - 1 - i) / h = 0 := Int.ediv_eq_zero_of_lt (by omega) (by omega)
    omega
theorem level_counts_ok {s h : Int} (s0 : 0 ≤ s) (h1 : 1 ≤ h) (h2 : h ≤ 20) (L : Sto) : m_l_level_counts [.int s, .int h] L = .ok (.lst ((lvl s h).map .int)) L := by
  have e := eLc_map (own := [2]) (tg := gSet 2) (f := e2 gDiv (en gInt (aCons (e2 gSub (e2 gSub (e2 gAdd (eVar 0) (eVar 1)) (eC (.int 1))) (eVar 2)) aNil)) (eVar 1)) (box := false) (List.range h.toNat) natD (fun (i : Nat) => D.int (s / h + (if (i : Int) < s % h then 1 else 0)))
    (range1_ev (fl := aCons (eVar 1) aNil) (ρ := [some (.int s), some (.int h), none]) (L := L) rfl (by omega) (by omega)) srcOk_nil (by rw [List.length_range]; omega) fun a ha => ⟨_, rfl, ?_⟩
  · have e' : C1_l_level_counts [some (.int s), some (.int h), none] L = .ok (.lst ((lvl s h).map .int)) L := by
      unfold lvl
      rw [List.map_map]
      exact e
    simp [m_l_level_counts, F_l_level_counts, mOf, fin, startE, List.map_cons, List.map_nil, List.replicate, List.length_cons, List.length_nil, List.cons_append, List.nil_append, sSeq, sIf, sRet, sRetN, sExpr, sSet, sSkip, sBind, sBindB, tOrF, tAndF, tNotF, tTru, truD, tTrue, eVar, eC, e2, e1, en, eCall, aCons, aNil, eIf, eAndF, eOrF, eNotF, asB, eIsi, gIsi, tyOfL, isiB, Tc.ty, gIsN, gNotN, isNonD, gIsB, gNotB, gAdd_int, gSub_int, gDiv_int, gMod_int, gMul_int, gNeg_int, gLt_int, gLe_int, gGt_int, gGe_int, gLtI_int, gLen_tg, gLen_tup, gLen_lst, gLen_ro, gLen_dK, gInt_int, gInt_bl, gAbs_int, gMax_ii, gMin_ii, gTuple_tg, gTuple_tup, lstOut_f, lstOut_t, eChain, eTupG, newTG, eTup, newT, eLst, seqOf_tg, seqOf_tup, seqOf_lst, seqOf_ro, sqlOf_lst, sqlOf_ro, iSeq, iRange1, iRange2, gSet, wipeE, Res.bind_ok, Res.bind_err, Res.bind_bad, List.append_nil, e']
  · have hp : 0 < h := by omega
    have hq : h < 2 ^ 64 := by omega
    have ha := List.mem_range.mp ha
    simp [natD, mOf, fin, startE, List.map_cons, List.map_nil, List.replicate, List.length_cons, List.length_nil, List.cons_append, List.nil_append, sSeq, sIf, sRet, sRetN, sExpr, sSet, sSkip, sBind, sBindB, tOrF, tAndF, tNotF, tTru, truD, tTrue, eVar, eC, e2, e1, en, eCall, aCons, aNil, eIf, eAndF, eOrF, eNotF, asB, eIsi, gIsi, tyOfL, isiB, Tc.ty, gIsN, gNotN, isNonD, gIsB, gNotB, gAdd_int, gSub_int, gDiv_int, gMod_int, gMul_int, gNeg_int, gLt_int, gLe_int, gGt_int, gGe_int, gLtI_int, gLen_tg, gLen_tup, gLen_lst, gLen_ro, gLen_dK, gInt_int, gInt_bl, gAbs_int, gMax_ii, gMin_ii, gTuple_tg, gTuple_tup, lstOut_f, lstOut_t, eChain, eTupG, newTG, eTup, newT, eLst, seqOf_tg, seqOf_tup, seqOf_lst, seqOf_ro, sqlOf_lst, sqlOf_ro, iSeq, iRange1, iRange2, gSet, wipeE, Res.bind_ok, Res.bind_err, Res.bind_bad, List.append_nil, gDiv_int hp hq, lvl_law s0 h1 a (by omega)]
/-! ### the law's counts -/
theorem cnt_get {r : List Int} {h : Int} {j : Nat} (hj : (j : Int) < h) : (cnt r h)[j]? = some ((r.count (j : Int) : Nat) : Int) := by
  unfold cnt
  rw [List.getElem?_map, List.getElem?_range (by omega)]
  rfl
theorem cnt_step {r : List Int} {h : Int} {j : Nat} (hj : (j : Int) < h) : (cnt r h).set j (((r.count (j : Int) : Nat) : Int) + 1) = cnt (r ++ [(j : Int)]) h := by
  apply List.ext_getElem?
  intro i
  by_cases hi : (i : Int) < h
  · rw [cnt_get hi]
    by_cases e : j = i
    · subst e
      rw [List.getElem?_set_self (by rw [cnt_length]; omega), List.count_append, List.count_singleton_self]
      rfl
    · rw [List.getElem?_set_ne e, cnt_get hi, List.count_append, List.count_eq_zero_of_not_mem (l := [(j : Int)]) (by simp; omega)]
      simp
  · rw [List.getElem?_eq_none (by rw [List.length_set, cnt_length]; omega), List.getElem?_eq_none (by rw [cnt_length]; omega)]
theorem cnt_nil (h : Int) : cnt [] h = List.replicate h.toNat 0 := by
  unfold cnt
  apply List.ext_getElem?
  intro i
  rw [List.getElem?_map, List.getElem?_replicate]
  by_cases hi : i < h.toNat
  · rw [List.getElem?_range hi, if_pos hi]; rfl
  · rw [List.getElem?_eq_none (by rw [List.length_range]; omega), if_neg hi]; rfl
theorem gIx_loc {L : Sto} {n j : Nat} {xs : List D} {y : D} (h : L[n]? = some (.lst xs)) (hy : xs[j]? = some y) : gIx (.loc n) (.int (j : Int)) L = .ok y L := by
  unfold gIx
  simp only [seqOf_loc h, atI_nat hy]
theorem gIx_tg {L : Sto} {j : Nat} {xs : List D} {y : D} (hy : xs[j]? = some y) : gIx (.tg xs) (.int (j : Int)) L = .ok y L := by
  unfold gIx
  simp only [seqOf_tg, atI_nat hy]
theorem gIx_lst {L : Sto} {j : Nat} {xs : List D} {y : D} (hy : xs[j]? = some y) : gIx (.lst xs) (.int (j : Int)) L = .ok y L := by
  unfold gIx
  simp only [seqOf_lst, atI_nat hy]
theorem ixN_nat {n j : Nat} (h : j < n) : ixN n (j : Int) = some j := by
  unfold ixN
  rw [if_pos (by omega), if_pos (by omega)]
  simp
theorem putAt_loc {L : Sto} {n j : Nat} {xs : List D} {v : D} (h : L[n]? = some (.lst xs)) (hj : j < xs.length) : putAt (.loc n) (.int (j : Int)) v L = some (L.set n (.lst (xs.set j v))) := by
  simp only [putAt, h, ixN_nat hj, Option.map_some]
theorem l_counts_loop {r : List Int} {h : Int} (hr : HRow r h) (L : Sto) : ∃ ρ', L1_l_counts [some (.int h), some (rowD r), some (.loc L.length), none] (L ++ [.lst ((cnt [] h).map .int)]) = .nx ρ' (L ++ [.lst ((cnt r h).map .int)]) ∧ ρ'[2]? = some (some (.loc L.length)) := by
  have := sFor_inv (fi := iSeq (eVar 1)) (tg := gSet 3) (body := sPut (e2 gAdd (e2 gIx (eVar 2) (eVar 3)) (eC (.int 1))) (eVar 2) (eVar 3)) (ρ := [some (.int h), some (rowD r), some (.loc L.length), none]) (L := L ++ [.lst ((cnt [] h).map .int)]) (its := ⟨r.map .int, []⟩) rfl
    (fun i ρ L' => ∃ x, ρ = [some (.int h), some (rowD r), some (.loc L.length), x] ∧ L' = L ++ [.lst ((cnt (r.take i) h).map .int)]) ⟨none, rfl, by simp⟩ ?_
  · obtain ⟨ρ', L', e, x, rfl, e2⟩ := this
    refine ⟨[some (.int h), some (rowD r), some (.loc L.length), x], ?_, rfl⟩
    rw [List.length_map, List.take_length] at e2
    rw [← e2]
    exact e
  · rintro i d ρ L' hd ⟨x, rfl, rfl⟩
    dsimp only at hd
    rw [List.getElem?_map] at hd
    obtain ⟨v, hv, rfl⟩ := Option.map_eq_some_iff.mp hd
    have hm := List.mem_of_getElem? hv
    have v0 := hr.nn v hm
    have v1 := hr.lt v hm
    obtain ⟨j, rfl⟩ := Int.eq_ofNat_of_zero_le v0
    have hn : (L ++ [D.lst ((cnt (r.take i) h).map .int)])[L.length]? = some (.lst ((cnt (r.take i) h).map .int)) := by simp
    have hg : ((cnt (r.take i) h).map D.int)[j]? = some (.int (((r.take i).count (j : Int) : Nat) : Int)) := by rw [List.getElem?_map, cnt_get v1]; rfl
    have hp := putAt_loc (v := .int ((((r.take i).count (j : Int) : Nat) : Int) + 1)) hn (j := j) (by rw [List.length_map, cnt_length]; omega)
    have ht : r.take (i + 1) = r.take i ++ [(j : Int)] := by
      rw [List.take_succ, hv]; rfl
    have hset : (L ++ [D.lst ((cnt (r.take i) h).map .int)]).set L.length (.lst (((cnt (r.take i) h).map D.int).set j (.int ((((r.take i).count (j : Int) : Nat) : Int) + 1)))) = L ++ [.lst ((cnt (r.take (i + 1)) h).map .int)] := by
      rw [ht, ← cnt_step v1, List.map_set, List.set_append_right _ _ (Nat.le_refl _), Nat.sub_self]
      rfl
    rw [hset] at hp
    refine ⟨_, [some (.int h), some (rowD r), some (.loc L.length), some (.int j)], L ++ [.lst ((cnt (r.take (i + 1)) h).map .int)], rfl, ?_, srcOk_nil, _, rfl, rfl⟩
    simp [sPut, mOf, fin, startE, List.map_cons, List.map_nil, List.replicate, List.length_cons, List.length_nil, List.cons_append, List.nil_append, sSeq, sIf, sRet, sRetN, sExpr, sSet, sSkip, sBind, sBindB, tOrF, tAndF, tNotF, tTru, truD, tTrue, eVar, eC, e2, e1, en, eCall, aCons, aNil, eIf, eAndF, eOrF, eNotF, asB, eIsi, gIsi, tyOfL, isiB, Tc.ty, gIsN, gNotN, isNonD, gIsB, gNotB, gAdd_int, gSub_int, gDiv_int, gMod_int, gMul_int, gNeg_int, gLt_int, gLe_int, gGt_int, gGe_int, gLtI_int, gLen_tg, gLen_tup, gLen_lst, gLen_ro, gLen_dK, gInt_int, gInt_bl, gAbs_int, gMax_ii, gMin_ii, gTuple_tg, gTuple_tup, lstOut_f, lstOut_t, eChain, eTupG, newTG, eTup, newT, eLst, seqOf_tg, seqOf_tup, seqOf_lst, seqOf_ro, sqlOf_lst, sqlOf_ro, iSeq, iRange1, iRange2, gSet, wipeE, Res.bind_ok, Res.bind_err, Res.bind_bad, List.append_nil, gIx_loc hn hg, hp]
theorem l_counts_ok {r : List Int} {h : Int} (hr : HRow r h) (L : Sto) : m_l_counts [.int h, rowD r] L = .ok (.lst ((cnt r h).map .int)) L := by
  have h1 := hr.h1
  have h2 := hr.h2
  obtain ⟨ρ', q1, q2⟩ := l_counts_loop hr L
  have em : gMulB (.lst [.int 0]) (.int h) L = .ok (.loc L.length) (L ++ [.lst ((cnt [] h).map .int)]) := by
    unfold gMulB
    simp only [lstOf_lst]
    rw [if_pos ⟨by omega, by omega, by simp; omega⟩, flat_rep, cnt_nil, List.map_replicate]
    rfl
  have ef : F_l_counts [some (.int h), some (rowD r), none, none] L = .rt (.loc L.length) (L ++ [.lst ((cnt r h).map .int)]) := by
    simp [F_l_counts, mOf, fin, startE, List.map_cons, List.map_nil, List.replicate, List.length_cons, List.length_nil, List.cons_append, List.nil_append, sSeq, sIf, sRet, sRetN, sExpr, sSet, sSkip, sBind, sBindB, tOrF, tAndF, tNotF, tTru, truD, tTrue, eVar, eC, e2, e1, en, eCall, aCons, aNil, eIf, eAndF, eOrF, eNotF, asB, eIsi, gIsi, tyOfL, isiB, Tc.ty, gIsN, gNotN, isNonD, gIsB, gNotB, gAdd_int, gSub_int, gDiv_int, gMod_int, gMul_int, gNeg_int, gLt_int, gLe_int, gGt_int, gGe_int, gLtI_int, gLen_tg, gLen_tup, gLen_lst, gLen_ro, gLen_dK, gInt_int, gInt_bl, gAbs_int, gMax_ii, gMin_ii, gTuple_tg, gTuple_tup, lstOut_f, lstOut_t, eChain, eTupG, newTG, eTup, newT, eLst, seqOf_tg, seqOf_tup, seqOf_lst, seqOf_ro, sqlOf_lst, sqlOf_ro, iSeq, iRange1, iRange2, gSet, wipeE, Res.bind_ok, Res.bind_err, Res.bind_bad, List.append_nil, em, q1, q2]
  show dropR L (fin (F_l_counts _ L)) = _
  have ef' : F_l_counts (startE 4 [.int h, rowD r]) L = _ := ef
  rw [ef']
  exact drop_last (by exact belL_ints _ _)
/-! ### classes -/
def places (r : List Int) (i : Int) : List Nat := (List.range r.length).filter fun j => decide (r.getD j 0 = i)
theorem enum_range (r : List Int) : enumD 0 (r.map .int) = (List.range r.length).map fun j => D.tup [natD j, .int (r.getD j 0)] := by
  apply List.ext_getElem?
  intro j
  rw [enumD_get, List.getElem?_map, List.getElem?_map]
  by_cases hj : j < r.length
  · rw [List.getElem?_range hj, List.getElem?_eq_getElem hj]
    simp [natD, List.getD, hj]
  · rw [List.getElem?_eq_none (by omega), List.getElem?_eq_none (by rw [List.length_range]; omega)]
    rfl
theorem gEq_int {i j : Int} {L : Sto} : gEq (.int i) (.int j) L = .ok (.bl (decide (i = j))) L := by
  have := gEq_ev (L := L) (d := .int i) (e := .int j) rfl rfl
  rw [this]
  show Res.ok (D.bl (i == j)) L = _
  by_cases h : i = j <;> simp [h]
theorem c1_classes_in {r : List Int} (hr : r.length ≤ 20) (i : Int) (h : D) (x y : Option D) (L : Sto) : C1_classes_in [some (rowD r), some h, some (.int i), x, y] L = .ok (.lst ((places r i).map natD)) L := by
  refine eLc_filter (box := false) (List.range r.length) (fun j => D.tup [natD j, .int (r.getD j 0)]) (fun j => decide (r.getD j 0 = i)) natD (src := []) (L1 := L) ?_ srcOk_nil (by rw [List.length_range]; omega) fun a _ => ⟨_, rfl, ?_, fun _ => rfl⟩
  · show Res.ok (Its.mk (enumD 0 (r.map .int)) []) L = _
    rw [enum_range]
  · simp [mOf, fin, startE, List.map_cons, List.map_nil, List.replicate, List.length_cons, List.length_nil, List.cons_append, List.nil_append, sSeq, sIf, sRet, sRetN, sExpr, sSet, sSkip, sBind, sBindB, tOrF, tAndF, tNotF, tTru, truD, tTrue, eVar, eC, e2, e1, en, eCall, aCons, aNil, eIf, eAndF, eOrF, eNotF, asB, eIsi, gIsi, tyOfL, isiB, Tc.ty, gIsN, gNotN, isNonD, gIsB, gNotB, gAdd_int, gSub_int, gDiv_int, gMod_int, gMul_int, gNeg_int, gLt_int, gLe_int, gGt_int, gGe_int, gLtI_int, gLen_tg, gLen_tup, gLen_lst, gLen_ro, gLen_dK, gInt_int, gInt_bl, gAbs_int, gMax_ii, gMin_ii, gTuple_tg, gTuple_tup, lstOut_f, lstOut_t, eChain, eTupG, newTG, eTup, newT, eLst, seqOf_tg, seqOf_tup, seqOf_lst, seqOf_ro, sqlOf_lst, sqlOf_ro, iSeq, iRange1, iRange2, gSet, wipeE, Res.bind_ok, Res.bind_err, Res.bind_bad, List.append_nil, gEq_int]
theorem c2_classes_in {r : List Int} {h : Int} (hr : r.length ≤ 20) (h1 : 0 ≤ h) (h2 : h ≤ 20) (L : Sto) : C2_classes_in [some (rowD r), some (.int h), none, none, none] L = .ok (.lst ((List.range h.toNat).map fun (i : Nat) => .lst ((places r i).map natD))) L := by
  refine eLc_map (box := false) (List.range h.toNat) natD _ (range1_ev (L1 := L) rfl (by omega) (by omega)) srcOk_nil (by rw [List.length_range]; omega) fun a _ => ⟨_, rfl, ?_⟩
  exact c1_classes_in hr a _ _ _ L
theorem places_length (r : List Int) (i : Int) : (places r i).length ≤ r.length := by
  have := List.length_filter_le (fun j => decide (r.getD j 0 = i)) (List.range r.length)
  rw [List.length_range] at this
  exact this
def partsD (r : List Int) (h : Int) : D := .tg ((List.range h.toNat).map fun (i : Nat) => .tg ((places r i).map natD))
theorem classes_ok {r : List Int} {h : Int} (hr : HRow r h) (L : Sto) : m_classes [rowD r, .int h] L = .ok (partsD r h) L := by
  have h1 := hr.h1
  have h2 := hr.h2
  have q1 := c2_classes_in hr.l2 (by omega : 0 ≤ h) h2 L
  have q2 : m_classes_in [rowD r, .int h] L = .ok (.lst ((List.range h.toNat).map fun (i : Nat) => .lst ((places r i).map natD))) L := by
    simp [m_classes_in, F_classes_in, mOf, fin, startE, List.map_cons, List.map_nil, List.replicate, List.length_cons, List.length_nil, List.cons_append, List.nil_append, sSeq, sIf, sRet, sRetN, sExpr, sSet, sSkip, sBind, sBindB, tOrF, tAndF, tNotF, tTru, truD, tTrue, eVar, eC, e2, e1, en, eCall, aCons, aNil, eIf, eAndF, eOrF, eNotF, asB, eIsi, gIsi, tyOfL, isiB, Tc.ty, gIsN, gNotN, isNonD, gIsB, gNotB, gAdd_int, gSub_int, gDiv_int, gMod_int, gMul_int, gNeg_int, gLt_int, gLe_int, gGt_int, gGe_int, gLtI_int, gLen_tg, gLen_tup, gLen_lst, gLen_ro, gLen_dK, gInt_int, gInt_bl, gAbs_int, gMax_ii, gMin_ii, gTuple_tg, gTuple_tup, lstOut_f, lstOut_t, eChain, eTupG, newTG, eTup, newT, eLst, seqOf_tg, seqOf_tup, seqOf_lst, seqOf_ro, sqlOf_lst, sqlOf_ro, iSeq, iRange1, iRange2, gSet, wipeE, Res.bind_ok, Res.bind_err, Res.bind_bad, List.append_nil, q1]
  have q3 : C1_classes [some (rowD r), some (.int h), none] L = .ok (.lst ((List.range h.toNat).map fun (i : Nat) => .tg ((places r i).map natD))) L := by
    refine eLc_map (box := false) (List.range h.toNat) (fun (i : Nat) => .lst ((places r i).map natD)) _ (src := []) (L1 := L) ?_ srcOk_nil (by rw [List.length_range]; omega) fun a _ => ⟨_, rfl, ?_⟩
    · simp [mOf, fin, startE, List.map_cons, List.map_nil, List.replicate, List.length_cons, List.length_nil, List.cons_append, List.nil_append, sSeq, sIf, sRet, sRetN, sExpr, sSet, sSkip, sBind, sBindB, tOrF, tAndF, tNotF, tTru, truD, tTrue, eVar, eC, e2, e1, en, eCall, aCons, aNil, eIf, eAndF, eOrF, eNotF, asB, eIsi, gIsi, tyOfL, isiB, Tc.ty, gIsN, gNotN, isNonD, gIsB, gNotB, gAdd_int, gSub_int, gDiv_int, gMod_int, gMul_int, gNeg_int, gLt_int, gLe_int, gGt_int, gGe_int, gLtI_int, gLen_tg, gLen_tup, gLen_lst, gLen_ro, gLen_dK, gInt_int, gInt_bl, gAbs_int, gMax_ii, gMin_ii, gTuple_tg, gTuple_tup, lstOut_f, lstOut_t, eChain, eTupG, newTG, eTup, newT, eLst, seqOf_tg, seqOf_tup, seqOf_lst, seqOf_ro, sqlOf_lst, sqlOf_ro, iSeq, iRange1, iRange2, gSet, wipeE, Res.bind_ok, Res.bind_err, Res.bind_bad, List.append_nil, q2]
    · have hl : ((places r a).map natD).length ≤ 16777216 := by
        have := places_length r a
        have := hr.l2
        rw [List.length_map]; omega
      simp [mOf, fin, startE, List.map_cons, List.map_nil, List.replicate, List.length_cons, List.length_nil, List.cons_append, List.nil_append, sSeq, sIf, sRet, sRetN, sExpr, sSet, sSkip, sBind, sBindB, tOrF, tAndF, tNotF, tTru, truD, tTrue, eVar, eC, e2, e1, en, eCall, aCons, aNil, eIf, eAndF, eOrF, eNotF, asB, eIsi, gIsi, tyOfL, isiB, Tc.ty, gIsN, gNotN, isNonD, gIsB, gNotB, gAdd_int, gSub_int, gDiv_int, gMod_int, gMul_int, gNeg_int, gLt_int, gLe_int, gGt_int, gGe_int, gLtI_int, gLen_tg, gLen_tup, gLen_lst, gLen_ro, gLen_dK, gInt_int, gInt_bl, gAbs_int, gMax_ii, gMin_ii, gTuple_tg, gTuple_tup, lstOut_f, lstOut_t, eChain, eTupG, newTG, eTup, newT, eLst, seqOf_tg, seqOf_tup, seqOf_lst, seqOf_ro, sqlOf_lst, sqlOf_ro, iSeq, iRange1, iRange2, gSet, wipeE, Res.bind_ok, Res.bind_err, Res.bind_bad, List.append_nil, gTuple_lst hl]
  have hl : ((List.range h.toNat).map fun (i : Nat) => D.tg ((places r i).map natD)).length ≤ 16777216 := by rw [List.length_map, List.length_range]; omega
  simp [m_classes, F_classes, mOf, fin, startE, List.map_cons, List.map_nil, List.replicate, List.length_cons, List.length_nil, List.cons_append, List.nil_append, sSeq, sIf, sRet, sRetN, sExpr, sSet, sSkip, sBind, sBindB, tOrF, tAndF, tNotF, tTru, truD, tTrue, eVar, eC, e2, e1, en, eCall, aCons, aNil, eIf, eAndF, eOrF, eNotF, asB, eIsi, gIsi, tyOfL, isiB, Tc.ty, gIsN, gNotN, isNonD, gIsB, gNotB, gAdd_int, gSub_int, gDiv_int, gMod_int, gMul_int, gNeg_int, gLt_int, gLe_int, gGt_int, gGe_int, gLtI_int, gLen_tg, gLen_tup, gLen_lst, gLen_ro, gLen_dK, gInt_int, gInt_bl, gAbs_int, gMax_ii, gMin_ii, gTuple_tg, gTuple_tup, lstOut_f, lstOut_t, eChain, eTupG, newTG, eTup, newT, eLst, seqOf_tg, seqOf_tup, seqOf_lst, seqOf_ro, sqlOf_lst, sqlOf_ro, iSeq, iRange1, iRange2, gSet, wipeE, Res.bind_ok, Res.bind_err, Res.bind_bad, List.append_nil, require_both_ok hr, q3, gTuple_lst hl, partsD]
/-! ### parts -/
theorem asc_zip : ∀ {ps : List Nat}, ps.Pairwise (· < ·) → (ps.zip (ps.drop 1)).all (fun p => decide ((p.1 : Int) < (p.2 : Int))) = true
  | [], _ => rfl
  | [_], _ => rfl
  | a :: b :: ps, h => by
    rw [List.pairwise_cons] at h
    have hr := asc_zip h.2
    show (((a, b) :: ((b :: ps).zip ((b :: ps).drop 1))).all _) = true
    rw [List.all_cons, hr]
    have := h.1 b (List.mem_cons_self)
    simp; omega
theorem zip_nats (ps qs : List Nat) : zipD (ps.map natD) (qs.map natD) = (ps.zip qs).map fun p => D.tup [natD p.1, natD p.2] := by
  unfold zipD
  rw [List.zipWith_map, List.zip, List.map_zipWith]
theorem cutD_from (xs : List D) (k : Nat) : cutD xs (some (k : Int)) none = xs.drop k := by
  unfold cutD
  have h1 : HT.sIx xs.length 0 (some (k : Int)) = min k xs.length := by
    show (if (k : Int) < 0 then ((k : Int) + xs.length).toNat else min (k : Int).toNat xs.length) = _
    rw [if_neg (by omega)]; rfl
  have h2 : HT.sIx xs.length xs.length none = xs.length := rfl
  rw [h1, h2]
  rcases Nat.le_total k xs.length with h | h
  · rw [Nat.min_eq_left h]; exact List.take_of_length_le (by rw [List.length_drop]; omega)
  · rw [Nat.min_eq_right h, List.drop_eq_nil_of_le h, List.drop_eq_nil_of_le (Nat.le_refl _)]; simp
theorem is_asc_ok {ps : List Nat} (h : ps.Pairwise (· < ·)) (hl : ps.length ≤ 1000) (L : Sto) : m_is_ascending [.tg (ps.map natD)] L = .ok (.bl true) L := by
  have q0 : eSl (eVar 0) (oSome (eC (.int 1))) oNone [some (.tg (ps.map natD)), none, none] L = .ok (.tup ((ps.drop 1).map natD)) L := by
    show Res.ok (D.tup (cutD (ps.map natD) (some 1) none)) L = _
    have : cutD (ps.map natD) (some 1) none = (ps.drop 1).map natD := by
      rw [List.map_drop]; exact cutD_from _ 1
    rw [this]
  have q1 : C1_is_ascending [some (.tg (ps.map natD)), none, none] L = .ok (.lst ((ps.zip (ps.drop 1)).map fun p => D.bl (decide ((p.1 : Int) < (p.2 : Int))))) L := by
    refine eLc_map (box := false) (ps.zip (ps.drop 1)) (fun p => D.tup [natD p.1, natD p.2]) _ (src := []) (L1 := L) ?_ srcOk_nil (by rw [List.length_zip]; omega) fun a _ => ⟨_, rfl, ?_⟩
    · unfold iZipF
      simp only [aCons, aNil, q0, Res.bind_ok, eVar, List.getElem?_cons_zero]
      show Res.ok (Its.mk (zipD (ps.map natD) ((ps.drop 1).map natD)) []) L = _
      rw [zip_nats]
    · simp [mOf, fin, startE, List.map_cons, List.map_nil, List.replicate, List.length_cons, List.length_nil, List.cons_append, List.nil_append, sSeq, sIf, sRet, sRetN, sExpr, sSet, sSkip, sBind, sBindB, tOrF, tAndF, tNotF, tTru, truD, tTrue, eVar, eC, e2, e1, en, eCall, aCons, aNil, eIf, eAndF, eOrF, eNotF, asB, eIsi, gIsi, tyOfL, isiB, Tc.ty, gIsN, gNotN, isNonD, gIsB, gNotB, gAdd_int, gSub_int, gDiv_int, gMod_int, gMul_int, gNeg_int, gLt_int, gLe_int, gGt_int, gGe_int, gLtI_int, gLen_tg, gLen_tup, gLen_lst, gLen_ro, gLen_dK, gInt_int, gInt_bl, gAbs_int, gMax_ii, gMin_ii, gTuple_tg, gTuple_tup, lstOut_f, lstOut_t, eChain, eTupG, newTG, eTup, newT, eLst, seqOf_tg, seqOf_tup, seqOf_lst, seqOf_ro, sqlOf_lst, sqlOf_ro, iSeq, iRange1, iRange2, gSet, wipeE, Res.bind_ok, Res.bind_err, Res.bind_bad, List.append_nil, natD]
  have q2 := gAll_map (L := L) (ps.zip (ps.drop 1)) (fun p => decide ((p.1 : Int) < (p.2 : Int)))
  rw [asc_zip h] at q2
  simp only [m_is_ascending, F_is_ascending, mOf, fin, startE, List.map_cons, List.map_nil, List.replicate, List.length_cons, List.length_nil, List.cons_append, List.nil_append, sSeq, sIf, sRet, sRetN, sExpr, sSet, sSkip, sBind, sBindB, tOrF, tAndF, tNotF, tTru, truD, tTrue, eVar, eC, e2, e1, en, eCall, aCons, aNil, eIf, eAndF, eOrF, eNotF, asB, eIsi, gIsi, tyOfL, isiB, Tc.ty, gIsN, gNotN, isNonD, gIsB, gNotB, gAdd_int, gSub_int, gDiv_int, gMod_int, gMul_int, gNeg_int, gLt_int, gLe_int, gGt_int, gGe_int, gLtI_int, gLen_tg, gLen_tup, gLen_lst, gLen_ro, gLen_dK, gInt_int, gInt_bl, gAbs_int, gMax_ii, gMin_ii, gTuple_tg, gTuple_tup, lstOut_f, lstOut_t, eChain, eTupG, newTG, eTup, newT, eLst, seqOf_tg, seqOf_tup, seqOf_lst, seqOf_ro, sqlOf_lst, sqlOf_ro, iSeq, iRange1, iRange2, gSet, wipeE, Res.bind_ok, Res.bind_err, Res.bind_bad, List.append_nil, q1, q2, List.getElem?_cons_zero]
theorem mem_places {r : List Int} {i : Int} {j : Nat} : j ∈ places r i ↔ j < r.length ∧ r.getD j 0 = i := by
  unfold places
  simp [List.mem_filter]
theorem places_asc (r : List Int) (i : Int) : (places r i).Pairwise (· < ·) := List.Pairwise.filter _ List.pairwise_lt_range
theorem are_places_ok {ps : List Nat} (h : ps.Pairwise (· < ·)) (hl : ps.length ≤ 1000) (hb : ∀ j ∈ ps, j < 20) (L : Sto) : m_are_places [.tg (ps.map natD), .int 20] L = .ok (.bl true) L := by
  have q1 : C1_are_places [some (.tg (ps.map natD)), some (.int 20), none] L = .ok (.lst (ps.map fun (j : Nat) => D.bl (decide ((j : Int) ≤ 19)))) L := by
    refine eLc_map (box := false) ps natD _ (src := []) (L1 := L) rfl srcOk_nil (by omega) fun a _ => ⟨_, rfl, ?_⟩
    simp [mOf, fin, startE, List.map_cons, List.map_nil, List.replicate, List.length_cons, List.length_nil, List.cons_append, List.nil_append, sSeq, sIf, sRet, sRetN, sExpr, sSet, sSkip, sBind, sBindB, tOrF, tAndF, tNotF, tTru, truD, tTrue, eVar, eC, e2, e1, en, eCall, aCons, aNil, eIf, eAndF, eOrF, eNotF, asB, eIsi, gIsi, tyOfL, isiB, Tc.ty, gIsN, gNotN, isNonD, gIsB, gNotB, gAdd_int, gSub_int, gDiv_int, gMod_int, gMul_int, gNeg_int, gLt_int, gLe_int, gGt_int, gGe_int, gLtI_int, gLen_tg, gLen_tup, gLen_lst, gLen_ro, gLen_dK, gInt_int, gInt_bl, gAbs_int, gMax_ii, gMin_ii, gTuple_tg, gTuple_tup, lstOut_f, lstOut_t, eChain, eTupG, newTG, eTup, newT, eLst, seqOf_tg, seqOf_tup, seqOf_lst, seqOf_ro, sqlOf_lst, sqlOf_ro, iSeq, iRange1, iRange2, gSet, wipeE, Res.bind_ok, Res.bind_err, Res.bind_bad, List.append_nil, natD, is_int_ok]
  have q2 := gAll_map (L := L) ps (fun (j : Nat) => decide ((j : Int) ≤ 19))
  have q3 : ps.all (fun (j : Nat) => decide ((j : Int) ≤ 19)) = true := List.all_eq_true.mpr fun j hj => by
    have := hb j hj
    simp; omega
  rw [q3] at q2
  simp [m_are_places, F_are_places, mOf, fin, startE, List.map_cons, List.map_nil, List.replicate, List.length_cons, List.length_nil, List.cons_append, List.nil_append, sSeq, sIf, sRet, sRetN, sExpr, sSet, sSkip, sBind, sBindB, tOrF, tAndF, tNotF, tTru, truD, tTrue, eVar, eC, e2, e1, en, eCall, aCons, aNil, eIf, eAndF, eOrF, eNotF, asB, eIsi, gIsi, tyOfL, isiB, Tc.ty, gIsN, gNotN, isNonD, gIsB, gNotB, gAdd_int, gSub_int, gDiv_int, gMod_int, gMul_int, gNeg_int, gLt_int, gLe_int, gGt_int, gGe_int, gLtI_int, gLen_tg, gLen_tup, gLen_lst, gLen_ro, gLen_dK, gInt_int, gInt_bl, gAbs_int, gMax_ii, gMin_ii, gTuple_tg, gTuple_tup, lstOut_f, lstOut_t, eChain, eTupG, newTG, eTup, newT, eLst, seqOf_tg, seqOf_tup, seqOf_lst, seqOf_ro, sqlOf_lst, sqlOf_ro, iSeq, iRange1, iRange2, gSet, wipeE, Res.bind_ok, Res.bind_err, Res.bind_bad, List.append_nil, q1, q2, is_asc_ok h hl]
def allPlaces (r : List Int) (h : Int) : List Nat := (List.range h.toNat).flatMap fun (i : Nat) => places r i
theorem mem_all {r : List Int} {h : Int} (hr : HRow r h) {j : Nat} : j ∈ allPlaces r h ↔ j < r.length := by
  unfold allPlaces
  rw [List.mem_flatMap]
  constructor
  · rintro ⟨i, _, hj⟩; exact (mem_places.mp hj).1
  · intro hj
    have hm : r.getD j 0 ∈ r := by simp [List.getD, hj]
    have v0 := hr.nn _ hm
    have v1 := hr.lt _ hm
    obtain ⟨i, hi⟩ := Int.eq_ofNat_of_zero_le v0
    exact ⟨i, List.mem_range.mpr (by omega), mem_places.mpr ⟨hj, hi⟩⟩
theorem nodup_all (r : List Int) (h : Int) : (allPlaces r h).Nodup := by
  unfold allPlaces List.Nodup
  rw [List.pairwise_flatMap]
  refine ⟨fun i _ => (places_asc r i).imp fun h => Nat.ne_of_lt h, ?_⟩
  refine (List.pairwise_lt_range (n := h.toNat)).imp fun {a b} hab x hx y hy e => ?_
  subst e
  have h1 := (mem_places.mp hx).2
  have h2 := (mem_places.mp hy).2
  omega
theorem perm_all {r : List Int} {h : Int} (hr : HRow r h) : (allPlaces r h).Perm (List.range r.length) :=
  (List.perm_ext_iff_of_nodup (nodup_all r h) List.nodup_range).mpr fun j => by rw [mem_all hr, List.mem_range]
theorem natD_map (ns : List Nat) : ns.map natD = (ns.map fun (j : Nat) => (j : Int)).map D.int := by rw [List.map_map]; rfl
theorem srt_all {r : List Int} {h : Int} (hr : HRow r h) : srtI ((allPlaces r h).map fun (j : Nat) => (j : Int)) = (List.range r.length).map fun (j : Nat) => (j : Int) := by
  refine (srtI_unique ((perm_all hr).symm.map _) ?_).symm
  rw [List.pairwise_map]
  exact (List.pairwise_lt_range).imp fun {a b} hab => by omega
theorem flatMap_one {α β : Type} (f : α → β) : ∀ xs : List α, (xs.flatMap fun j => [f j]) = xs.map f
  | [] => rfl
  | x :: xs => by rw [List.flatMap_cons, flatMap_one f xs]; rfl
theorem c2_are_parts {r : List Int} {h : Int} (hr : HRow r h) (L : Sto) : C2_are_parts [some (partsD r h), none, none, none] L = .ok (.lst ((allPlaces r h).map natD)) L := by
  have hlen : (allPlaces r h).length ≤ 20 := by
    have := (perm_all hr).length_eq
    rw [List.length_range] at this
    have := hr.l2
    omega
  have e : (List.range h.toNat).flatMap (fun (i : Nat) => (places r i).map natD) = (allPlaces r h).map natD := by
    unfold allPlaces
    rw [List.map_flatMap]
  have q := cGo_lst (src := []) (tg := gSet 2) (step := stepN (iSeq (eVar 2)) [3] (gSet 3) tTrue (stepL (eVar 3))) (ρ := [some (partsD r h), none, none, none]) (L := L) (fun (i : Nat) => D.tg ((places r i).map natD)) (fun (i : Nat) => (places r i).map natD) srcOk_nil (List.range h.toNat) []
    (by rw [e, List.length_map]; simp; omega) fun i _ acc ha => ⟨_, rfl, ?_⟩
  · rw [e] at q
    refine (eComp_at (its := ⟨(List.range h.toNat).map fun (i : Nat) => D.tg ((places r i).map natD), []⟩) rfl q).trans ?_
    rw [List.nil_append]
    rfl
  · refine stepN_at (its := ⟨(places r i).map natD, []⟩) rfl ?_
    have q2 := cGo_lst (src := []) (tg := gSet 3) (step := stepL (eVar 3)) (ρ := wipeE ([some (partsD r h), none, some (.tg ((places r i).map natD)), none]) [3]) (L := L) natD (fun j => [natD j]) srcOk_nil (places r i) acc
      (by rw [flatMap_one]; exact ha) fun j _ acc2 ha2 => ⟨_, rfl, stepL_at rfl ha2⟩
    rw [flatMap_one] at q2
    exact q2
section
variable {r : List Int} {h : Int}
theorem ap_q1 (hr : HRow r h) (L : Sto) : C1_are_parts [some (partsD r h), none, none, none] L = .ok (.lst ((List.range h.toNat).map fun _ => D.bl true)) L := by
  have h1 := hr.h1
  have h2 := hr.h2
  have l2 := hr.l2
  refine eLc_map (box := false) (List.range h.toNat) (fun (i : Nat) => D.tg ((places r i).map natD)) _ (src := []) (L1 := L) rfl srcOk_nil (by rw [List.length_range]; omega) fun a _ => ⟨_, rfl, ?_⟩
  have := are_places_ok (places_asc r a) (by have := places_length r a; omega) (fun j hj => by have := (mem_places.mp hj).1; omega) L
  simp [mOf, fin, startE, List.map_cons, List.map_nil, List.replicate, List.length_cons, List.length_nil, List.cons_append, List.nil_append, sSeq, sIf, sRet, sRetN, sExpr, sSet, sSkip, sBind, sBindB, tOrF, tAndF, tNotF, tTru, truD, tTrue, eVar, eC, e2, e1, en, eCall, aCons, aNil, eIf, eAndF, eOrF, eNotF, asB, eIsi, gIsi, tyOfL, isiB, Tc.ty, gIsN, gNotN, isNonD, gIsB, gNotB, gAdd_int, gSub_int, gDiv_int, gMod_int, gMul_int, gNeg_int, gLt_int, gLe_int, gGt_int, gGe_int, gLtI_int, gLen_tg, gLen_tup, gLen_lst, gLen_ro, gLen_dK, gInt_int, gInt_bl, gAbs_int, gMax_ii, gMin_ii, gTuple_tg, gTuple_tup, lstOut_f, lstOut_t, eChain, eTupG, newTG, eTup, newT, eLst, seqOf_tg, seqOf_tup, seqOf_lst, seqOf_ro, sqlOf_lst, sqlOf_ro, iSeq, iRange1, iRange2, gSet, wipeE, Res.bind_ok, Res.bind_err, Res.bind_bad, List.append_nil, this]
theorem ap_q2 (h : Int) (L : Sto) : gAll [.lst ((List.range h.toNat).map fun _ => D.bl true)] L = .ok (.bl true) L := by
  have q2 := gAll_map (L := L) (List.range h.toNat) (fun _ => true)
  have q3 : (List.range h.toNat).all (fun _ => true) = true := by simp
  rw [q3] at q2
  exact q2
theorem ap_q5 (hr : HRow r h) (L : Sto) : gSort false [.lst ((allPlaces r h).map natD)] L = .ok (.lst ((List.range r.length).map natD)) L := by
  unfold gSort
  simp only [seqOf_lst]
  rw [natD_map, dInts_map]
  simp only [srt_all hr, ← natD_map, lstOut_f]
theorem ok_nats (n : Nat) : okD 60 (.lst ((List.range n).map natD)) = true := by
  rw [natD_map, okD]
  exact okDL_ints _ _
theorem seen_lst (L : Sto) (xs : List D) : seen L (.lst xs) = .lst xs := rfl
theorem seen_tg (L : Sto) (xs : List D) : seen L (.tg xs) = .tg xs := rfl
theorem seen_tup (L : Sto) (xs : List D) : seen L (.tup xs) = .tup xs := rfl
theorem seen_int (L : Sto) (i : Int) : seen L (.int i) = .int i := rfl
theorem seen_bl (L : Sto) (i : Bool) : seen L (.bl i) = .bl i := rfl
theorem ok_nil : okD 60 (.lst []) = true := by rw [okD, okDL]
theorem ap_q6 {n : Nat} (hn : 1 ≤ n) (L : Sto) : gNe (.lst ((List.range n).map natD)) (.lst []) L = .ok (.bl true) L := by
  rw [gNe_ev (by rw [seen_lst]; exact ok_nats n) (by rw [seen_lst]; exact ok_nil), seen_lst, seen_lst, eqD]
  obtain ⟨m, hm⟩ : ∃ m, n = m + 1 := ⟨n - 1, by omega⟩
  rw [hm, List.range_succ_eq_map, List.map_cons, eqDL]
  · rfl
  · simp
  · simp
theorem ap_q7 {n : Nat} (L : Sto) : gEq (.lst ((List.range n).map natD)) (.lst ((List.range n).map natD)) L = .ok (.bl true) L := by
  rw [gEq_ev (by rw [seen_lst]; exact ok_nats n) (by rw [seen_lst]; exact ok_nats n), seen_lst, eqD, natD_map, eqDL_ints, decide_eq_true rfl]
theorem rgOk0 {n : Nat} (h : n ≤ 1000) : rgOk 0 (n : Int) = true := and2' (and2' (small62_of (by omega) (by omega)) (small62_of (by omega) (by omega))) (decide_eq_true (by omega))
end
section
variable {r : List Int} {h : Int}
theorem ap_p1 (hr : HRow r h) (L : Sto) : eChain gLe gLe (eC (.int 1)) (en gLen (aCons (eVar 0) aNil)) (eC (.int 20)) [some (partsD r h), none, none, none] L = .ok (.bl true) L := by
  have h1 := hr.h1
  have h2 := hr.h2
  have a1 : (1 : Int) ≤ ((((List.range h.toNat).map fun (i : Nat) => D.tg ((places r i).map natD)).length : Nat) : Int) := by rw [List.length_map, List.length_range]; omega
  have a2 : ((((List.range h.toNat).map fun (i : Nat) => D.tg ((places r i).map natD)).length : Nat) : Int) ≤ 20 := by rw [List.length_map, List.length_range]; omega
  simp only [partsD, mOf, fin, startE, List.map_cons, List.map_nil, List.replicate, List.length_cons, List.length_nil, List.cons_append, List.nil_append, sSeq, sIf, sRet, sRetN, sExpr, sSet, sSkip, sBind, sBindB, tOrF, tAndF, tNotF, tTru, truD, tTrue, eVar, eC, e2, e1, en, eCall, aCons, aNil, eIf, eAndF, eOrF, eNotF, asB, eIsi, gIsi, tyOfL, isiB, Tc.ty, gIsN, gNotN, isNonD, gIsB, gNotB, gAdd_int, gSub_int, gDiv_int, gMod_int, gMul_int, gNeg_int, gLt_int, gLe_int, gGt_int, gGe_int, gLtI_int, gLen_tg, gLen_tup, gLen_lst, gLen_ro, gLen_dK, gInt_int, gInt_bl, gAbs_int, gMax_ii, gMin_ii, gTuple_tg, gTuple_tup, lstOut_f, lstOut_t, eChain, eTupG, newTG, eTup, newT, eLst, seqOf_tg, seqOf_tup, seqOf_lst, seqOf_ro, sqlOf_lst, sqlOf_ro, iSeq, iRange1, iRange2, gSet, wipeE, Res.bind_ok, Res.bind_err, Res.bind_bad, List.append_nil, List.getElem?_cons_zero, decide_eq_true a1, decide_eq_true a2, if_true]
theorem ap_p2 (hr : HRow r h) (L : Sto) : en gAll (aCons C1_are_parts aNil) [some (partsD r h), none, none, none] L = .ok (.bl true) L := by
  simp only [en, aCons, aNil, Res.bind_ok, ap_q1 hr, ap_q2]
theorem ap_p3 (hr : HRow r h) (L : Sto) : en (gSort false) (aCons C2_are_parts aNil) [some (partsD r h), none, none, none] L = .ok (.lst ((List.range r.length).map natD)) L := by
  simp only [en, aCons, aNil, Res.bind_ok, c2_are_parts hr, ap_q5 hr]
theorem ap_p4 (hr : HRow r h) (d : D) (L : Sto) : eAndF (e2 gNe (eVar 1) (eLst false aNil)) (e2 gEq (eVar 1) (eRange1 (en gLen (aCons (eVar 1) aNil)) (lstOut false))) [some d, some (.lst ((List.range r.length).map natD)), none, none] L = .ok (.bl true) L := by
  have l1 := hr.l1
  have l2 := hr.l2
  have z0 : eVar 1 [some d, some (.lst ((List.range r.length).map natD)), none, none] L = .ok (.lst ((List.range r.length).map natD)) L := rfl
  have z1 : eLst false aNil [some d, some (.lst ((List.range r.length).map natD)), none, none] L = .ok (.lst []) L := ev_lst ev_nil (Nat.zero_le _)
  have z2 : eRange1 (en gLen (aCons (eVar 1) aNil)) (lstOut false) [some d, some (.lst ((List.range r.length).map natD)), none, none] L = .ok (.lst ((List.range r.length).map natD)) L := by
    refine (ev_rg1 (j := r.length) (L1 := L) ?_ (rgOk0 (by omega))).trans rfl
    rw [ev_en (ev_one z0), gLen_lst, List.length_map, List.length_range]
  refine ev_and_t ((ev_e2 z0 z1).trans (ap_q6 l1 L)) ((ev_e2 z0 z2).trans (ap_q7 L))
theorem isi_parts (r : List Int) (h : Int) (L : Sto) : eIsi .tup (eVar 0) [some (partsD r h), none, none, none] L = .ok (.bl true) L := by
  unfold eIsi
  rw [ev_var (d := partsD r h) rfl]
  rfl
theorem are_parts_ok (hr : HRow r h) (L : Sto) : m_are_parts [partsD r h] L = .ok (.bl true) L := by
  have s0 : startE 4 [partsD r h] = [some (partsD r h), none, none, none] := rfl
  have t1 : tOrF (tNotF (tTru (eIsi .tup (eVar 0)))) (tNotF (fun ρ L => asB ((eChain gLe gLe (eC (.int 1)) (en gLen (aCons (eVar 0) aNil)) (eC (.int 20))) ρ L))) [some (partsD r h), none, none, none] L = .ok false L := by
    exact ev_or_f (ev_not (b := true) (ev_tru (isi_parts r h L))) (ev_not (b := true) (ev_asB (ap_p1 hr L)))
  have t2 : tNotF (tTru (en gAll (aCons C1_are_parts aNil))) [some (partsD r h), none, none, none] L = .ok false L := ev_not (b := true) (ev_tru (ap_p2 hr L))
  exact ev_m (ev_seq (ev_skip t1) (ev_seq (ev_skip t2) (ev_seq (ev_set (ap_p3 hr L)) (ev_ret (ap_p4 hr _ L)))))
/-! row_of -/
def pairsD (r : List Int) (h : Int) : List (Key × D) := (List.range h.toNat).flatMap fun (i : Nat) => (places r i).map fun (j : Nat) => (.inl (j : Int), natD i)
theorem pairs_keys (r : List Int) (h : Int) : (pairsD r h).map (·.1) = (allPlaces r h).map fun (j : Nat) => (.inl (j : Int) : Key) := by
  unfold pairsD allPlaces
  rw [List.map_flatMap, List.map_flatMap]
  congr 1
  funext i
  rw [List.map_map]
  rfl
theorem pairs_nodup (r : List Int) (h : Int) : ((pairsD r h).map (·.1)).Nodup := by
  rw [pairs_keys]
  unfold List.Nodup
  rw [List.pairwise_map]
  exact (nodup_all r h).imp fun {a b} hab e => hab (by
    have := Sum.inl.inj e
    omega)
theorem pairs_length (hr : HRow r h) : (pairsD r h).length = r.length := by
  have e : ((pairsD r h).map (·.1)).length = ((allPlaces r h).map fun (j : Nat) => (.inl (j : Int) : Key)).length := by rw [pairs_keys]
  rw [List.length_map, List.length_map, (perm_all hr).length_eq, List.length_range] at e
  exact e
theorem pairs_val (hr : HRow r h) {j : Nat} (hj : j < r.length) : valD (pairsD r h) (.inl (j : Int)) = some (.int (r.getD j 0)) := by
  have hm : r.getD j 0 ∈ r := by simp [List.getD, hj]
  have v0 := hr.nn _ hm
  have v1 := hr.lt _ hm
  obtain ⟨i, hi⟩ := Int.eq_ofNat_of_zero_le v0
  refine valD_mem (pairs_nodup r h) ?_
  unfold pairsD
  rw [List.mem_flatMap]
  exact ⟨i, List.mem_range.mpr (by omega), List.mem_map.mpr ⟨j, mem_places.mpr ⟨hj, hi⟩, by rw [hi]; rfl⟩⟩
theorem enum_parts (r : List Int) (h : Int) : enumD 0 ((List.range h.toNat).map fun (i : Nat) => D.tg ((places r i).map natD)) = (List.range h.toNat).map fun (i : Nat) => D.tup [natD i, .tg ((places r i).map natD)] := by
  apply List.ext_getElem?
  intro j
  rw [enumD_get, List.getElem?_map, List.getElem?_map]
  by_cases hj : j < h.toNat
  · rw [List.getElem?_range hj]
    simp [natD]
  · rw [List.getElem?_eq_none (by rw [List.length_range]; omega)]
    rfl
theorem merge_one (kvs : List (Key × D)) (k : Key) (v : D) : mergeD kvs [(k, v)] = putD kvs k v := rfl
theorem flatMap_pair {α : Type} (f : α → Key × D) (xs : List α) : (xs.flatMap fun j => [f j]) = xs.map f := flatMap_one f xs
theorem c1_row_of (hr : HRow r h) (L : Sto) : C1_row_of [some (partsD r h), none, none, none, none] L = .ok (.dK (pairsD r h)) L := by
  have l2 := hr.l2
  have hlen := pairs_length hr
  have q := cGo_dict (src := []) (tg := gTupF 2 (gsCons (gSet 3) (gsCons (gSet 4) gsNil))) (step := stepN (iSeq (eVar 4)) [2] (gSet 2) tTrue (stepD (eVar 2) (eVar 3))) (ρ := [some (partsD r h), none, none, none, none]) (L := L)
    (fun (i : Nat) => D.tup [natD i, .tg ((places r i).map natD)]) (fun (i : Nat) => (places r i).map fun (j : Nat) => (.inl (j : Int), natD i)) srcOk_nil (List.range h.toNat) []
    (by show 0 + (pairsD r h).length ≤ 16777216; omega) fun i _ kvs ha => ⟨_, rfl, ?_⟩
  · have q' : cGo [] (gTupF 2 (gsCons (gSet 3) (gsCons (gSet 4) gsNil))) tTrue (stepN (iSeq (eVar 4)) [2] (gSet 2) tTrue (stepD (eVar 2) (eVar 3))) [some (partsD r h), none, none, none, none] ((List.range h.toNat).map fun (i : Nat) => D.tup [natD i, .tg ((places r i).map natD)]) (.dK []) L = .ok (.dK (mergeD [] (pairsD r h))) L := q
    rw [mergeD_new (by rw [List.nil_append]; exact pairs_nodup r h), List.nil_append] at q'
    refine (eComp_at (its := ⟨(List.range h.toNat).map fun (i : Nat) => D.tup [natD i, .tg ((places r i).map natD)], []⟩) ?_ q').trans rfl
    unfold iEnumF
    simp only [aCons, aNil, eVar, List.getElem?_cons_zero, Res.bind_ok, partsD, seqOf_tg, enum_parts]
  · refine stepN_at (its := ⟨(places r i).map natD, []⟩) rfl ?_
    have q2 := cGo_dict (src := []) (tg := gSet 2) (step := stepD (eVar 2) (eVar 3)) (ρ := [some (partsD r h), none, none, some (natD i), some (.tg ((places r i).map natD))]) (L := L) natD (fun (j : Nat) => [(.inl (j : Int), natD i)]) srcOk_nil (places r i) kvs
      (by rw [flatMap_pair]; exact ha) fun j _ kvs2 ha2 => ⟨_, rfl, stepD_at rfl rfl rfl ha2⟩
    rw [flatMap_pair] at q2
    exact q2
theorem range_getD (r : List Int) : (List.range r.length).map (fun j => r.getD j 0) = r := by
  apply List.ext_getElem?
  intro j
  rw [List.getElem?_map]
  by_cases hj : j < r.length
  · rw [List.getElem?_range hj, List.getElem?_eq_getElem hj]
    simp [List.getD, hj]
  · rw [List.getElem?_eq_none (by rw [List.length_range]; omega), List.getElem?_eq_none (by omega)]
    rfl
theorem row_of_ok (hr : HRow r h) (L : Sto) : m_row_of [partsD r h] L = .ok (rowD r) L := by
  have l2 := hr.l2
  have s0 : startE 5 [partsD r h] = [some (partsD r h), none, none, none, none] := rfl
  have q0 : eCall 1 m_are_parts [] (aCons (eVar 0) aNil) [some (partsD r h), none, none, none, none] L = .ok (.bl true) L := by
    simp only [eCall, aCons, aNil, eVar, List.getElem?_cons_zero, Res.bind_ok, List.append_nil, List.length_cons, List.length_nil, Nat.zero_add, if_true, are_parts_ok hr]
  have q1 : C2_row_of [some (partsD r h), some (.dK (pairsD r h)), none, none, none] L = .ok (.lst (r.map .int)) L := by
    refine (eLc_map (box := false) (List.range r.length) natD (fun j => .int (r.getD j 0)) (range1_ev (n := (r.length : Int)) (L1 := L) ?_ (by omega) (by omega)) srcOk_nil (by rw [List.length_range]; omega) fun a ha => ⟨_, rfl, ?_⟩).trans ?_
    · simp only [en, aCons, aNil, eVar, List.getElem?_cons_succ, List.getElem?_cons_zero, Res.bind_ok, gLen_dK, pairs_length hr]
    · have := pairs_val hr (List.mem_range.mp ha)
      show gIx (.dK (pairsD r h)) (.int (a : Int)) L = _
      unfold gIx
      simp only [seqOf, gLook, dictOf, dKey, this]
    · rw [lstOut_f]
      congr 2
      conv => rhs; rw [← range_getD r]
      rw [List.map_map]
      rfl
  have hl : (r.map D.int).length ≤ 16777216 := by rw [List.length_map]; omega
  exact ev_m (ev_seq (ev_skip (ev_not (b := true) (ev_tru q0))) (ev_seq (ev_set (c1_row_of hr L)) (ev_ret ((ev_en (ev_one q1)).trans (gTuple_lst hl)))))
end
end DS
set_option Elab.async false
set_option linter.all false
set_option maxRecDepth 100000
set_option maxHeartbeats 4000000
namespace DS
open PySem PySem.Spec L2
open PyProof.Rows hiding St

/-! ### the order of first places -/
def step1 (acc : List Int) (x : Int) : List Int := if x ∈ acc then acc else acc ++ [x]
def firsts (r : List Int) : List Int := r.foldl step1 []
theorem firsts_snoc (r : List Int) (x : Int) : firsts (r ++ [x]) = step1 (firsts r) x := by unfold firsts; rw [List.foldl_append]; rfl
theorem firsts_take {r : List Int} {i : Nat} {x : Int} (h : r[i]? = some x) : firsts (r.take (i + 1)) = step1 (firsts (r.take i)) x := by
  rw [List.take_succ, h]
  exact firsts_snoc _ _
theorem firsts_len (r : List Int) : (firsts r).length ≤ r.length := by
  have : ∀ (xs acc : List Int), (xs.foldl step1 acc).length ≤ acc.length + xs.length := by
    intro xs
    induction xs with
    | nil => intro acc; simp
    | cons x xs ih =>
      intro acc
      have h := ih (step1 acc x)
      have h2 : (step1 acc x).length ≤ acc.length + 1 := by
        unfold step1
        split
        · omega
        · simp
      rw [List.foldl_cons, List.length_cons]
      omega
  have h := this r []
  unfold firsts
  simpa using h
theorem mem_firsts (r : List Int) (x : Int) : x ∈ firsts r ↔ x ∈ r := by
  have : ∀ (xs acc : List Int), x ∈ xs.foldl step1 acc ↔ x ∈ acc ∨ x ∈ xs := by
    intro xs
    induction xs with
    | nil => intro acc; simp
    | cons y xs ih =>
      intro acc
      rw [List.foldl_cons, ih]
      unfold step1
      split
      · rename_i h
        constructor
        · rintro (a | a)
          · exact .inl a
          · exact .inr (List.mem_cons_of_mem _ a)
        · rintro (a | a)
          · exact .inl a
          · rcases List.mem_cons.mp a with e | e
            · exact .inl (e ▸ h)
            · exact .inr e
      · simp [List.mem_append, List.mem_cons, or_assoc]
  have := this r []
  unfold firsts
  simpa using this
def numD (k : Nat) (o : List Int) : List (Key × D) := (o.zipIdx k).map fun p => (.inl p.1, natD p.2)
theorem numD_cons (k : Nat) (x : Int) (o : List Int) : numD k (x :: o) = (.inl x, natD k) :: numD (k + 1) o := by unfold numD; rw [List.zipIdx_cons]; rfl
theorem numD_snoc : ∀ (o : List Int) (k : Nat) (x : Int), numD k (o ++ [x]) = numD k o ++ [(.inl x, natD (k + o.length))]
  | [], k, x => rfl
  | y :: o, k, x => by
    rw [List.cons_append, numD_cons, numD_snoc o (k + 1) x, numD_cons, List.length_cons]
    rw [show k + 1 + o.length = k + (o.length + 1) by omega]
    rfl
theorem numD_len (k : Nat) (o : List Int) : (numD k o).length = o.length := by unfold numD; simp
theorem valD_num : ∀ (o : List Int) (k : Nat) (x : Int), valD (numD k o) (.inl x) = if x ∈ o then some (natD (k + o.idxOf x)) else none
  | [], k, x => rfl
  | y :: o, k, x => by
    rw [numD_cons]
    unfold valD
    rw [List.find?_cons]
    by_cases h : y = x
    · subst h
      simp [List.idxOf_cons]
    · have h2 : (Sum.inl y : Key) ≠ .inl x := fun e => h (Sum.inl.inj e)
      have h3 : ¬ x = y := fun e => h e.symm
      simp only [h2, decide_false]
      have := valD_num o (k + 1) x
      unfold valD at this
      rw [this]
      have h4 : (y == x) = false := by simpa using h
      simp only [List.mem_cons, h3, false_or, List.idxOf_cons, h4, cond_false]
      split
      · congr 2; omega
      · rfl
theorem keys_num (o : List Int) (k : Nat) : (numD k o).map (·.1) = o.map fun x => (.inl x : Key) := by
  unfold numD
  rw [List.map_map]
  induction o generalizing k with
  | nil => rfl
  | cons x o ih => rw [List.zipIdx_cons, List.map_cons, ih]; rfl
theorem putD_num {o : List Int} {x : Int} (h : x ∉ o) : putD (numD 0 o) (.inl x) (natD o.length) = numD 0 (o ++ [x]) := by
  rw [putD_new, numD_snoc, Nat.zero_add]
  rw [keys_num]
  intro hm
  obtain ⟨y, hy, e⟩ := List.mem_map.mp hm
  exact h (Sum.inl.inj e ▸ hy)
def nmd (r : List Int) : List Int := r.map fun x => ((firsts r).idxOf x : Int)
theorem bel_num (n k : Nat) : ∀ o : List Int, belK n (numD k o) = true := by
  intro o
  induction o generalizing k with
  | nil => rfl
  | cons x o ih => rw [numD_cons, belK, ih]; rfl
/-! ### renamed -/
theorem dictOf_loc {L : Sto} {n : Nat} {kvs : List (Key × D)} (h : L[n]? = some (.dK kvs)) : dictOf L (.loc n) = some (.k kvs) := by simp only [dictOf, h]
theorem isDk_loc {L : Sto} {n : Nat} {kvs : List (Key × D)} (h : L[n]? = some (.dK kvs)) : isDk L (.loc n) = true := by unfold isDk; rw [dictOf_loc h]; rfl
theorem boxK_loc {L : Sto} {n : Nat} {kvs : List (Key × D)} (h : L[n]? = some (.dK kvs)) : boxK L (.loc n) = some (n, kvs) := by simp only [boxK, h]
theorem ev_setd {fo fk fx : EF} {ρ : Env'} {L : Sto} {n : Nat} {k x : D} {key : Key} {kvs : List (Key × D)} (ho : fo ρ L = .ok (.loc n) L) (hk : fk ρ L = .ok k L) (hx : fx ρ L = .ok x L) (hb : L[n]? = some (.dK kvs)) (hkey : dKey k = some key) (hl : kvs.length < 16777216) :
    eSetd fo fk fx ρ L = (match valD kvs key with
      | some y => .ok y L
      | none => .ok x (L.set n (.dK (putD kvs key x)))) := by
  have e : eSetd fo fk fx ρ L = if kvs.length < 16777216 then (match valD kvs key with
      | some y => .ok y L
      | none => .ok x (L.set n (.dK (putD kvs key x)))) else .bad := by
    unfold eSetd
    rw [ho]
    simp only [Res.bind_ok, isDk_loc hb, if_true, hk, hx, boxK_loc hb, hkey]
    try rfl
  rw [e, if_pos hl]
theorem renamed_loop {r : List Int} (hr : r.length ≤ 20) (L : Sto) : ∃ ρ', L1_renamed_in [some (rowD r), some (.loc L.length), none] (L ++ [.dK []]) = .nx ρ' (L ++ [.dK (numD 0 (firsts r))]) ∧ ∃ x, ρ' = [some (rowD r), some (.loc L.length), x] := by
  have := sFor_inv (fi := iSeq (eVar 0)) (tg := gSet 2) (body := sExpr (eSetd (eVar 1) (eVar 2) (en gLen (aCons (eVar 1) aNil)))) (ρ := [some (rowD r), some (.loc L.length), none]) (L := L ++ [.dK []]) (its := ⟨r.map .int, []⟩) rfl
    (fun i ρ L' => ∃ x, ρ = [some (rowD r), some (.loc L.length), x] ∧ L' = L ++ [.dK (numD 0 (firsts (r.take i)))]) ⟨none, rfl, rfl⟩ ?_
  · obtain ⟨ρ', L', q, x, rfl, q2⟩ := this
    refine ⟨_, ?_, x, rfl⟩
    rw [List.length_map, List.take_length] at q2
    rw [← q2]
    exact q
  · rintro i d ρ L' hd ⟨x, rfl, rfl⟩
    dsimp only at hd
    rw [List.getElem?_map] at hd
    obtain ⟨v, hv, rfl⟩ := Option.map_eq_some_iff.mp hd
    have hb : (L ++ [D.dK (numD 0 (firsts (r.take i)))])[L.length]? = some (.dK (numD 0 (firsts (r.take i)))) := by simp
    have hlen : (numD 0 (firsts (r.take i))).length < 16777216 := by
      rw [numD_len]
      have := firsts_len (r.take i)
      have h2 : (r.take i).length ≤ r.length := by rw [List.length_take]; omega
      omega
    have ho : eVar 1 [some (rowD r), some (.loc L.length), some (.int v)] (L ++ [D.dK (numD 0 (firsts (r.take i)))]) = .ok (.loc L.length) (L ++ [D.dK (numD 0 (firsts (r.take i)))]) := rfl
    have hx : en gLen (aCons (eVar 1) aNil) [some (rowD r), some (.loc L.length), some (.int v)] (L ++ [D.dK (numD 0 (firsts (r.take i)))]) = .ok (natD (firsts (r.take i)).length) (L ++ [D.dK (numD 0 (firsts (r.take i)))]) := by
      rw [ev_en (ev_one ho), gLen_locK hb, numD_len]
      rfl
    have q := ev_setd (key := .inl v) ho (fk := eVar 2) (ev_var (d := .int v) rfl) hx hb rfl hlen
    rw [valD_num] at q
    refine ⟨_, [some (rowD r), some (.loc L.length), some (.int v)], L ++ [.dK (numD 0 (firsts (r.take (i + 1))))], rfl, ?_, srcOk_nil, _, rfl, rfl⟩
    rw [firsts_take hv]
    unfold step1
    by_cases hm : v ∈ firsts (r.take i)
    · rw [if_pos hm] at q ⊢
      exact ev_expr q
    · rw [if_neg hm] at q ⊢
      rw [putD_num hm, List.set_append_right _ _ (Nat.le_refl _), Nat.sub_self] at q
      exact ev_expr q
theorem gIx_locK {L : Sto} {n : Nat} {kvs : List (Key × D)} {i : Int} {y : D} (h : L[n]? = some (.dK kvs)) (hy : valD kvs (.inl i) = some y) : gIx (.loc n) (.int i) L = .ok y L := by
  have h1 : seqOf L (.loc n) = none := by simp only [seqOf, h]
  have h2 : gLook L (.loc n) (.int i) = some (some y) := by simp only [gLook, dictOf_loc h, dKey, hy]
  unfold gIx
  simp only [h1, h2]
theorem renamed_in_ok {r : List Int} (hr : r.length ≤ 20) (L : Sto) : m_renamed_in [rowD r] L = .ok (rowD (nmd r)) L := by
  obtain ⟨ρ', q, x, rfl⟩ := renamed_loop hr L
  have hb : (L ++ [D.dK (numD 0 (firsts r))])[L.length]? = some (.dK (numD 0 (firsts r))) := by simp
  have q1 : C1_renamed_in [some (rowD r), some (.loc L.length), x] (L ++ [D.dK (numD 0 (firsts r))]) = .ok (.lst ((nmd r).map .int)) (L ++ [D.dK (numD 0 (firsts r))]) := by
    refine (eLc_map (box := false) r D.int (fun x => .int ((firsts r).idxOf x : Int)) (src := []) (L1 := L ++ [D.dK (numD 0 (firsts r))]) rfl srcOk_nil (by omega) fun a ha => ⟨_, rfl, ?_⟩).trans ?_
    · refine (ev_e2 (ev_var (d := .loc L.length) rfl) (ev_var (d := .int a) rfl)).trans (gIx_locK hb ?_)
      rw [valD_num, if_pos ((mem_firsts r a).mpr ha), Nat.zero_add]
      rfl
    · unfold nmd
      rw [List.map_map]
      rfl
  have hl : ((nmd r).map D.int).length ≤ 16777216 := by unfold nmd; rw [List.length_map, List.length_map]; omega
  have qf : F_renamed_in (startE 3 [rowD r]) L = .rt (rowD (nmd r)) (L ++ [D.dK (numD 0 (firsts r))]) :=
    ev_seq (ev_set (d := D.loc L.length) (L1 := L ++ [D.dK []]) rfl) (ev_seq (ρ := [some (rowD r), some (.loc L.length), none]) q (ev_ret ((ev_en (ev_one q1)).trans (gTuple_lst hl))))
  show dropR L (fin (F_renamed_in (startE 3 [rowD r]) L)) = _
  rw [qf]
  refine (drop_val takeOk_app (by exact belL_ints _ _)).trans ?_
  rw [List.take_left]
theorem renamed_ok {r : List Int} (h : IsRow r) (L : Sto) : m_renamed [rowD r] L = .ok (rowD (nmd r)) L :=
  ev_m (ev_seq (ev_expr ((ev_call (ev_one (ev_var (d := rowD r) rfl)) rfl).trans (require_row_ok h L))) (ev_ret ((ev_call (ev_one (ev_var (d := rowD r) rfl)) rfl).trans (renamed_in_ok h.l2 L))))
theorem okRow (r : List Int) : okD 60 (rowD r) = true := by rw [okD]; exact okDL_ints _ _
theorem gEq_row (r s : List Int) (L : Sto) : gEq (rowD r) (rowD s) L = .ok (.bl (decide (r = s))) L := by
  rw [gEq_ev (by rw [seen_tg]; exact okRow r) (by rw [seen_tg]; exact okRow s), seen_tg, seen_tg, eqD, eqDL_ints]
theorem gNe_row (r s : List Int) (L : Sto) : gNe (rowD r) (rowD s) L = .ok (.bl (!decide (r = s))) L := by
  rw [gNe_ev (by rw [seen_tg]; exact okRow r) (by rw [seen_tg]; exact okRow s), seen_tg, seen_tg, eqD, eqDL_ints]
theorem gNe_int {i j : Int} {L : Sto} : gNe (.int i) (.int j) L = .ok (.bl (!decide (i = j))) L := by
  have := gNe_ev (L := L) (d := .int i) (e := .int j) rfl rfl
  rw [this]
  show Res.ok (D.bl (!(i == j))) L = _
  by_cases h : i = j <;> simp [h]
theorem are_alike_ok {r s : List Int} (h : IsRow r) (h2 : IsRow s) (hl : r.length = s.length) (L : Sto) : m_are_alike [rowD r, rowD s] L = .ok (.bl (decide (nmd r = nmd s))) L := by
  have v0 : eVar 0 (startE 2 [rowD r, rowD s]) L = .ok (rowD r) L := rfl
  have v1 : eVar 1 (startE 2 [rowD r, rowD s]) L = .ok (rowD s) L := rfl
  have c : asB (DS.e2 gNe (en gLen (aCons (eVar 0) aNil)) (en gLen (aCons (eVar 1) aNil)) (startE 2 [rowD r, rowD s]) L) = .ok false L := by
    refine ev_asB (fa := DS.e2 gNe (en gLen (aCons (eVar 0) aNil)) (en gLen (aCons (eVar 1) aNil))) ?_
    rw [ev_e2 ((ev_en (ev_one v0)).trans gLen_tg) ((ev_en (ev_one v1)).trans gLen_tg), gNe_int, List.length_map, List.length_map, hl, decide_eq_true rfl]
    rfl
  refine ev_m (ev_seq (ev_expr ((ev_call (ev_one v0) rfl).trans (require_row_ok h L))) (ev_seq (ev_expr ((ev_call (ev_one v1) rfl).trans (require_row_ok h2 L))) (ev_seq (ev_skip c) (ev_ret ?_))))
  refine (ev_e2 ((ev_call (ev_one v0) rfl).trans (renamed_in_ok h.l2 L)) ((ev_call (ev_one v1) rfl).trans (renamed_in_ok h2.l2 L))).trans ?_
  exact gEq_row _ _ L
end DS
set_option Elab.async false
set_option linter.all false
set_option maxRecDepth 100000
set_option maxHeartbeats 4000000
namespace DS
open PySem PySem.Spec L2
open PyProof.Rows hiding St

/-! ### the law's named -/
theorem ev_bm {f : EF} {fl : AF} {g : D → List D → Sto → Res D} {ρ : Env'} {L L1 L2 : Sto} {d : D} {ds : List D} (h : f ρ L = .ok d L1) (hl : isL L1 d = true) (ha : fl ρ L1 = .ok ds L2) : eBm f fl g ρ L = g d ds L2 := by
  unfold eBm
  rw [h, Res.bind_ok, if_pos hl, ha]
  rfl
theorem flat_ints (r : List Int) : (r.map D.int).all dFlat = true := by
  rw [List.all_map, List.all_eq_true]; intro x _; rfl
theorem any_ints (v : Int) (o : List Int) : ((o.map D.int).any fun y => dEqF y (.int v)) = decide (v ∈ o) := by
  rw [List.any_map]
  induction o with
  | nil => rfl
  | cons x o ih =>
    rw [List.any_cons, ih]
    show ((x == v) || decide (v ∈ o)) = _
    by_cases h : x = v
    · subst h; simp
    · have h2 : ¬ v = x := fun e => h e.symm
      simp [h, h2]
theorem gNotIn_ints (v : Int) (o : List Int) (L : Sto) : gNotIn (.int v) (.lst (o.map .int)) L = .ok (.bl (!decide (v ∈ o))) L := by
  have e : gInB L (.int v) (.lst (o.map .int)) = some (decide (v ∈ o)) := by
    unfold gInB
    rw [seqOf_lst]
    dsimp only
    rw [if_pos ⟨rfl, flat_ints o⟩, any_ints]
  unfold gNotIn
  rw [e]
theorem gMul_lst1 (v : Int) (k : Nat) (hk : k ≤ 1) (L : Sto) : gMul (.lst [.int v]) (.int (k : Int)) L = .ok (.lst (List.replicate k (.int v))) L := by
  have e : gMul (.lst [.int v]) (.int (k : Int)) L = if -(2 ^ 63) ≤ (k : Int) ∧ (k : Int) < 2 ^ 63 ∧ [D.int v].length * (k : Int).toNat ≤ 16777216 then .ok (.lst (List.replicate (k : Int).toNat [D.int v]).flatten) L else .bad := rfl
  rw [e, if_pos ⟨by omega, by omega, by rw [List.length_singleton, Nat.one_mul, Int.toNat_natCast]; omega⟩, Int.toNat_natCast, flat_rep]
theorem gAdd_lst {L : Sto} {xs ys : List D} (h : (xs ++ ys).length ≤ 16777216) : gAdd (.lst xs) (.lst ys) L = .ok (.lst (xs ++ ys)) L := by
  have e : gAdd (.lst xs) (.lst ys) L = newL (xs ++ ys) L := rfl
  rw [e]
  unfold newL
  rw [if_pos h]
theorem named_loop {r : List Int} (hr : r.length ≤ 20) (L : Sto) : ∃ x, L1_l_named [some (rowD r), some (.lst []), none] L = .nx [some (rowD r), some (.lst ((firsts r).map .int)), x] L := by
  have := sFor_inv (fi := iSeq (eVar 0)) (tg := gSet 2) (body := sSet 1 (DS.e2 gAdd (eVar 1) (DS.e2 gMul (eLst false (aCons (eVar 2) aNil)) (en gInt (aCons (DS.e2 gNotIn (eVar 2) (eVar 1)) aNil))))) (ρ := [some (rowD r), some (.lst []), none]) (L := L) (its := ⟨r.map .int, []⟩) rfl
    (fun i ρ L' => ∃ x, ρ = [some (rowD r), some (.lst ((firsts (r.take i)).map .int)), x] ∧ L' = L) ⟨none, rfl, rfl⟩ ?_
  · obtain ⟨ρ', L', q, x, rfl, rfl⟩ := this
    rw [List.length_map, List.take_length] at q
    exact ⟨x, q⟩
  · rintro i d ρ L' hd ⟨x, rfl, rfl⟩
    dsimp only at hd
    rw [List.getElem?_map] at hd
    obtain ⟨v, hv, rfl⟩ := Option.map_eq_some_iff.mp hd
    have hlen : (firsts (r.take i)).length ≤ 20 := by
      have := firsts_len (r.take i)
      have h2 : (r.take i).length ≤ r.length := by rw [List.length_take]; omega
      omega
    refine ⟨_, [some (rowD r), some (.lst ((firsts (r.take (i + 1))).map .int)), some (.int v)], L', rfl, ?_, srcOk_nil, _, rfl, rfl⟩
    have v1 : eVar 1 [some (rowD r), some (.lst ((firsts (r.take i)).map .int)), some (.int v)] L' = .ok (.lst ((firsts (r.take i)).map .int)) L' := rfl
    have v2 : eVar 2 [some (rowD r), some (.lst ((firsts (r.take i)).map .int)), some (.int v)] L' = .ok (.int v) L' := rfl
    have q1 : en gInt (aCons (DS.e2 gNotIn (eVar 2) (eVar 1)) aNil) [some (rowD r), some (.lst ((firsts (r.take i)).map .int)), some (.int v)] L' = .ok (.int (((if v ∈ firsts (r.take i) then 0 else 1 : Nat) : Nat) : Int)) L' := by
      rw [ev_en (ev_one ((ev_e2 v2 v1).trans (gNotIn_ints _ _ _))), gInt_bl]
      by_cases h : v ∈ firsts (r.take i) <;> simp [h]
    have q2 : DS.e2 gMul (eLst false (aCons (eVar 2) aNil)) (en gInt (aCons (DS.e2 gNotIn (eVar 2) (eVar 1)) aNil)) [some (rowD r), some (.lst ((firsts (r.take i)).map .int)), some (.int v)] L' = .ok (.lst (List.replicate (if v ∈ firsts (r.take i) then 0 else 1) (.int v))) L' :=
      (ev_e2 (ev_lst (ev_one v2) (by show 1 ≤ 16777216; decide)) q1).trans (gMul_lst1 _ _ (by split <;> omega) _)
    refine (ev_set ((ev_e2 v1 q2).trans (gAdd_lst ?_))).trans ?_
    · rw [List.length_append, List.length_map, List.length_replicate]; split <;> omega
    · rw [firsts_take hv]
      unfold step1
      by_cases h : v ∈ firsts (r.take i) <;> simp [h]
theorem findIdx_ints (x : Int) : ∀ o : List Int, x ∈ o → (o.map D.int).findIdx? (fun z => dEqF z (.int x)) = some (o.idxOf x)
  | y :: o, h => by
    rw [List.map_cons, List.findIdx?_cons, List.idxOf_cons]
    show (if (y == x) = true then some 0 else _) = _
    by_cases e : y = x
    · subst e; simp
    · have h2 : x ∈ o := by
        rcases List.mem_cons.mp h with z | z
        · exact absurd z.symm e
        · exact z
      have h3 : (y == x) = false := by simpa using e
      rw [h3, findIdx_ints x o h2]
      rfl
theorem gLIndex_ints {x : Int} {o : List Int} (h : x ∈ o) (L : Sto) : gLIndex (.lst (o.map .int)) [.int x] L = .ok (.int (o.idxOf x : Int)) L := by
  unfold gLIndex
  rw [sqlOf_lst]
  dsimp only
  rw [if_pos ⟨rfl, flat_ints o⟩, findIdx_ints x o h]
theorem named_ok {r : List Int} (h : IsRow r) (L : Sto) : m_l_named [rowD r] L = .ok (rowD (nmd r)) L := by
  have hr := h.l2
  obtain ⟨x, q⟩ := named_loop hr L
  have q1 : C1_l_named [some (rowD r), some (.lst ((firsts r).map .int)), x] L = .ok (.lst ((nmd r).map .int)) L := by
    refine (eLc_map (box := false) r D.int (fun x => .int ((firsts r).idxOf x : Int)) (src := []) (L1 := L) rfl srcOk_nil (by omega) fun a ha => ⟨_, rfl, ?_⟩).trans ?_
    · exact (ev_bm (ev_var (d := .lst ((firsts r).map .int)) rfl) rfl (ev_one (ev_var (d := .int a) rfl))).trans (gLIndex_ints ((mem_firsts r a).mpr ha) L)
    · unfold nmd
      rw [List.map_map]
      rfl
  have hl : ((nmd r).map D.int).length ≤ 16777216 := by unfold nmd; rw [List.length_map, List.length_map]; omega
  exact ev_m (ev_seq (ev_set (ev_lst ev_nil (Nat.zero_le _))) (ev_seq q (ev_ret ((ev_en (ev_one q1)).trans (gTuple_lst hl)))))
/-! ### exchanged -/
def exch (a b x : Int) : Int := if x = a then b else (if x = b then a else x)
theorem require_hue_ok {x h : Int} (h0 : 0 ≤ x) (h1 : x < h) (L : Sto) : m_require_hue [.int x, .int h] L = .ok .non L := by
  have h2 : x ≤ h - 1 := by omega
  simp [m_require_hue, F_require_hue, mOf, fin, startE, List.map_cons, List.map_nil, List.replicate, List.length_cons, List.length_nil, List.cons_append, List.nil_append, sSeq, sIf, sRet, sRetN, sExpr, sSet, sSkip, sBind, sBindB, tOrF, tAndF, tNotF, tTru, truD, tTrue, eVar, eC, e2, e1, en, eCall, aCons, aNil, eIf, eAndF, eOrF, eNotF, asB, eIsi, gIsi, tyOfL, isiB, Tc.ty, gIsN, gNotN, isNonD, gIsB, gNotB, gAdd_int, gSub_int, gDiv_int, gMod_int, gMul_int, gNeg_int, gLt_int, gLe_int, gGt_int, gGe_int, gLtI_int, gLen_tg, gLen_tup, gLen_lst, gLen_ro, gLen_dK, gInt_int, gInt_bl, gAbs_int, gMax_ii, gMin_ii, gTuple_tg, gTuple_tup, lstOut_f, lstOut_t, eChain, eTupG, newTG, eTup, newT, eLst, seqOf_tg, seqOf_tup, seqOf_lst, seqOf_ro, sqlOf_lst, sqlOf_ro, iSeq, iRange1, iRange2, gSet, wipeE, Res.bind_ok, Res.bind_err, Res.bind_bad, List.append_nil, is_int_ok, h0, h2]
theorem swap_val (a b x : Int) : (valD (mergeD [] [(.inl a, .int b), (.inl b, .int a)]) (.inl x)).getD (.int x) = .int (exch a b x) := by
  have e : mergeD [] [(.inl a, .int b), (.inl b, .int a)] = if a = b then [((.inl a : Key), D.int a)] else [(.inl a, .int b), (.inl b, .int a)] := by
    show putD (putD [] (Sum.inl a : Key) (D.int b)) (Sum.inl b : Key) (D.int a) = _
    by_cases h : a = b
    · subst h; simp [putD]
    · have h2 : (Sum.inl a : Key) ≠ .inl b := fun z => h (Sum.inl.inj z)
      simp [putD, h, h2]
  rw [e]
  unfold exch
  by_cases h : a = b
  · subst h
    rw [if_pos rfl]
    by_cases h3 : x = a
    · subst h3; simp [valD]
    · have h4 : (Sum.inl a : Key) ≠ .inl x := fun z => h3 (Sum.inl.inj z).symm
      simp [valD, h3, h4]
  · rw [if_neg h]
    by_cases h3 : x = a
    · subst h3; simp [valD]
    · have h4 : (Sum.inl a : Key) ≠ .inl x := fun z => h3 (Sum.inl.inj z).symm
      by_cases h5 : x = b
      · subst h5; simp [valD, h3, h4]
      · have h6 : (Sum.inl b : Key) ≠ .inl x := fun z => h5 (Sum.inl.inj z).symm
        simp [valD, h3, h4, h5, h6]
theorem ev_get2 {fo fk fx : EF} {ρ : Env'} {L : Sto} {k x y : D} {key : Key} {kvs : List (Key × D)} (ho : fo ρ L = .ok (.dK kvs) L) (hk : fk ρ L = .ok k L) (hx : fx ρ L = .ok x L) (hkey : dKey k = some key) (hy : (valD kvs key).getD x = y) : eGet2 fo fk fx ρ L = .ok y L := by
  have hl : gLookK L (.dK kvs) k = some (valD kvs key) := by unfold gLookK; rw [hkey]; rfl
  unfold eGet2
  rw [ho, Res.bind_ok, if_pos (show isDk L (.dK kvs) = true from rfl), hk, Res.bind_ok, hx, Res.bind_ok, hl]
  cases hv : valD kvs key with
  | none => rw [hv] at hy; cases hy; rfl
  | some z => rw [hv] at hy; cases hy; rfl
theorem exchanged_ok {r : List Int} {h a b : Int} (hr : HRow r h) (a0 : 0 ≤ a) (a1 : a < h) (b0 : 0 ≤ b) (b1 : b < h) (L : Sto) : m_exchanged [rowD r, .int h, .int a, .int b] L = .ok (rowD (r.map (exch a b))) L := by
  have l2 := hr.l2
  have v0 : eVar 0 (startE 6 [rowD r, .int h, .int a, .int b]) L = .ok (rowD r) L := rfl
  have v1 : eVar 1 (startE 6 [rowD r, .int h, .int a, .int b]) L = .ok (.int h) L := rfl
  have v2 : eVar 2 (startE 6 [rowD r, .int h, .int a, .int b]) L = .ok (.int a) L := rfl
  have v3 : eVar 3 (startE 6 [rowD r, .int h, .int a, .int b]) L = .ok (.int b) L := rfl
  have qd : eDisp false (((eVar 2), (eVar 3)) :: (((eVar 3), (eVar 2)) :: [])) (startE 6 [rowD r, .int h, .int a, .int b]) L = .ok (.dK (mergeD [] [(.inl a, .int b), (.inl b, .int a)])) L := rfl
  have q1 : C1_exchanged [some (rowD r), some (.int h), some (.int a), some (.int b), some (.dK (mergeD [] [(.inl a, .int b), (.inl b, .int a)])), none] L = .ok (.lst ((r.map (exch a b)).map .int)) L := by
    refine (eLc_map (box := false) r D.int (fun x => .int (exch a b x)) (src := []) (L1 := L) rfl srcOk_nil (by omega) fun x _ => ⟨_, rfl, ?_⟩).trans ?_
    · exact ev_get2 (ev_var rfl) (ev_var (d := .int x) rfl) (ev_var (d := .int x) rfl) rfl (swap_val a b x)
    · rw [List.map_map]; rfl
  have hl : ((r.map (exch a b)).map D.int).length ≤ 16777216 := by rw [List.length_map, List.length_map]; omega
  exact ev_m (ev_seq (ev_expr ((ev_call (ev_one v0) rfl).trans (require_row_ok hr.toIsRow L))) (ev_seq (ev_expr ((ev_call (ev_one v1) rfl).trans (require_hues_ok hr.h1 hr.h2 L)))
    (ev_seq (ev_expr ((ev_call (ev_cons v2 (ev_one v1)) rfl).trans (require_hue_ok a0 a1 L))) (ev_seq (ev_expr ((ev_call (ev_cons v3 (ev_one v1)) rfl).trans (require_hue_ok b0 b1 L)))
    (ev_seq (ev_expr ((ev_call (ev_cons v0 (ev_one v1)) rfl).trans (require_below_ok hr L))) (ev_seq (ev_set qd) (ev_ret ((ev_en (ev_one q1)).trans (gTuple_lst hl)))))))))
end DS
set_option Elab.async false
set_option linter.all false
set_option maxRecDepth 100000
set_option maxHeartbeats 4000000
namespace DS
open PySem PySem.Spec L2
open PyProof.Rows hiding St

/-! ### dice -/
def dice (a b c : Int) : D := .lst [.int a, .int b, .int c]
theorem ev_put {fv fo fi : EF} {ρ : Env'} {L L1 L2 L3 L4 : Sto} {v d k : D} (h1 : fv ρ L = .ok v L1) (h2 : fo ρ L1 = .ok d L2) (h3 : fi ρ L2 = .ok k L3) (h4 : putAt d k v L3 = some L4) : sPut fv fo fi ρ L = .nx ρ L4 := by
  unfold sPut
  rw [h1, sBind_ok, h2, sBind_ok, h3, sBind_ok, h4]
theorem set_get {L : Sto} {n : Nat} {c d : D} (h : L[n]? = some d) : (L.set n c)[n]? = some c := List.getElem?_set_self (getElem?_lt h)
theorem set_set' {L : Sto} {n : Nat} {c d : D} : (L.set n c).set n d = L.set n d := List.set_set _
theorem roll_ok {L : Sto} {n : Nat} {a b c t : Int} (hd : L[n]? = some (dice a b c)) (t1 : 1 ≤ t) (t2 : t ≤ 1000) : ∃ r a' b' c', 0 ≤ r ∧ r < t ∧ m_l_roll [.loc n, .int t] L = .ok (.int r) (L.set n (dice a' b' c')) := by
  have hp : 0 < t := by omega
  have hq : t < 2 ^ 64 := by omega
  have s0 : startE 6 [.loc n, .int t] = [some (.loc n), some (.int t), none, none, none, none] := rfl
  have q0 : sSet 2 (en gInt (aCons (eVar 1) aNil)) [some (.loc n), some (.int t), none, none, none, none] L = .nx [some (.loc n), some (.int t), some (.int t), none, none, none] L := rfl
  have ix : ∀ (L : Sto) (a b c : Int) (ρ : Env'), L[n]? = some (dice a b c) → ρ[0]? = some (some (.loc n)) → (DS.e2 gIx (eVar 0) (eC (.int 0)) ρ L = .ok (.int a) L ∧ DS.e2 gIx (eVar 0) (eC (.int 1)) ρ L = .ok (.int b) L ∧ DS.e2 gIx (eVar 0) (eC (.int 2)) ρ L = .ok (.int c) L) := fun L a b c ρ h hρ =>
    ⟨(ev_e2 (ev_var hρ) rfl).trans (gIx_loc (j := 0) h rfl), (ev_e2 (ev_var hρ) rfl).trans (gIx_loc (j := 1) h rfl), (ev_e2 (ev_var hρ) rfl).trans (gIx_loc (j := 2) h rfl)⟩
  by_cases ha : 0 < a
  · obtain ⟨i0, i1, i2⟩ := ix L a b c [some (.loc n), some (.int t), some (.int t), none, none, none] hd rfl
    obtain ⟨j0, j1, j2⟩ := ix L a b c [some (.loc n), some (.int t), some (.int t), none, none, some (.int (a % t))] hd rfl
    refine ⟨a % t, a / t, b, c, Int.emod_nonneg _ (by omega), Int.emod_lt_of_pos _ hp, ?_⟩
    refine ev_m (ev_seq q0 (ev_seqR (ev_if_t (L1 := L) ?_ (ev_seq (ev_set ((ev_e2 i0 (ev_var (d := .int t) rfl)).trans (gMod_int hp))) (ev_seq (ev_put ((ev_e2 j0 (ev_var (d := .int t) rfl)).trans (gDiv_int hp hq)) (ev_var (d := .loc n) rfl) (k := .int 0) rfl (putAt_loc (j := 0) hd (show 0 < 3 by decide))) (ev_ret rfl))))))
    refine ev_asB (fa := DS.e2 gGt (DS.e2 gIx (eVar 0) (eC (.int 0))) (eC (.int 0))) ?_
    rw [ev_e2 i0 (e := .int 0) rfl, gGt_int, decide_eq_true ha]
  · obtain ⟨i0, i1, i2⟩ := ix L a b c [some (.loc n), some (.int t), some (.int t), none, none, none] hd rfl
    have hd2 : (L.set n (dice a b (c + 1)))[n]? = some (dice a b (c + 1)) := set_get hd
    have hmul : ∀ (x y : Int), 0 ≤ x → x < 2 ^ 64 → (-(2 ^ 64) < x ∧ x < 2 ^ 64) ∨ (-(2 ^ 64) < y ∧ y < 2 ^ 64) := fun x y h1 h2 => .inl ⟨by omega, h2⟩
    obtain ⟨one, h1⟩ : ∃ one : Int, (b + 1000171 * (c + 1)) % 2305843009213693951 = one := ⟨_, rfl⟩
    have o0 : 0 ≤ one := by rw [← h1]; exact Int.emod_nonneg _ (by decide)
    have o1 : one < 2 ^ 64 := by
      have : one < 2305843009213693951 := by rw [← h1]; exact Int.emod_lt_of_pos _ (by decide)
      omega
    obtain ⟨sq, h2⟩ : ∃ sq : Int, one * one % 2305843009213693921 = sq := ⟨_, rfl⟩
    have p0 : 0 ≤ sq := by rw [← h2]; exact Int.emod_nonneg _ (by decide)
    have p1 : sq < 2 ^ 64 := by
      have : sq < 2305843009213693921 := by rw [← h2]; exact Int.emod_lt_of_pos _ (by decide)
      omega
    obtain ⟨two, h3⟩ : ∃ two : Int, (sq * one + 9419 * (c + 1)) % 2305843009213693907 = two := ⟨_, rfl⟩
    refine ⟨two / 4096 % t, a, b, c + 1, Int.emod_nonneg _ (by omega), Int.emod_lt_of_pos _ hp, ?_⟩
    obtain ⟨j0, j1, j2⟩ := ix (L.set n (dice a b (c + 1))) a b (c + 1) [some (.loc n), some (.int t), some (.int t), none, none, none] hd2 rfl
    obtain ⟨k0, k1, k2⟩ := ix (L.set n (dice a b (c + 1))) a b (c + 1) [some (.loc n), some (.int t), some (.int t), some (.int one), none, none] hd2 rfl
    refine ev_m (ev_seq q0 (ev_seq (ev_skip ?_) (ev_seq (ev_put ((ev_e2 i2 (e := .int 1) rfl).trans gAdd_int) (ev_var (d := .loc n) rfl) (k := .int 2) rfl (putAt_loc (j := 2) hd (show 2 < 3 by decide)))
      (ev_seq (ev_set (d := .int one) (L1 := L.set n (dice a b (c + 1))) ?_) (ev_seq (ev_set (d := .int (sq * one + 9419 * (c + 1))) (L1 := L.set n (dice a b (c + 1))) ?_) (ev_seq (ev_set (d := .int two) (L1 := L.set n (dice a b (c + 1))) ?_) (ev_ret ?_)))))))
    · refine ev_asB (fa := DS.e2 gGt (DS.e2 gIx (eVar 0) (eC (.int 0))) (eC (.int 0))) ?_
      rw [ev_e2 i0 (e := .int 0) rfl, gGt_int, decide_eq_false ha]
    · have z1 : DS.e2 gMul (eC (.int 1000171)) (DS.e2 gIx (eVar 0) (eC (.int 2))) [some (.loc n), some (.int t), some (.int t), none, none, none] (L.set n (dice a b (c + 1))) = .ok (.int (1000171 * (c + 1))) (L.set n (dice a b (c + 1))) :=
        (ev_e2 (d := .int 1000171) rfl j2).trans (gMul_int (.inl ⟨by decide, by decide⟩))
      have z2 := (ev_e2 j1 z1).trans gAdd_int
      refine (ev_e2 z2 (e := .int 2305843009213693951) rfl).trans ?_
      rw [gMod_int (by decide), h1]
    · have y3 : eVar 3 [some (.loc n), some (.int t), some (.int t), some (.int one), none, none] (L.set n (dice a b (c + 1))) = .ok (.int one) (L.set n (dice a b (c + 1))) := rfl
      have z1 := (ev_e2 y3 y3).trans (gMul_int (hmul one one o0 o1))
      have z2 : DS.e2 gMod (DS.e2 gMul (eVar 3) (eVar 3)) (eC (.int 2305843009213693921)) [some (.loc n), some (.int t), some (.int t), some (.int one), none, none] (L.set n (dice a b (c + 1))) = .ok (.int sq) (L.set n (dice a b (c + 1))) := by
        rw [ev_e2 z1 (e := .int 2305843009213693921) rfl, gMod_int (by decide), h2]
      have z3 := (ev_e2 z2 y3).trans (gMul_int (hmul sq one p0 p1))
      have z4 : DS.e2 gMul (eC (.int 9419)) (DS.e2 gIx (eVar 0) (eC (.int 2))) [some (.loc n), some (.int t), some (.int t), some (.int one), none, none] (L.set n (dice a b (c + 1))) = .ok (.int (9419 * (c + 1))) (L.set n (dice a b (c + 1))) :=
        (ev_e2 (d := .int 9419) rfl k2).trans (gMul_int (.inl ⟨by decide, by decide⟩))
      exact (ev_e2 z3 z4).trans gAdd_int
    · refine (ev_e2 (ev_var (d := .int (sq * one + 9419 * (c + 1))) rfl) (e := .int 2305843009213693907) rfl).trans ?_
      rw [gMod_int (by decide), h3]
    · have z1 := (ev_e2 (fa := eVar 4) (ρ := [some (.loc n), some (.int t), some (.int t), some (.int one), some (.int two), none]) (L := L.set n (dice a b (c + 1))) (ev_var (d := .int two) rfl) (fb := eC (.int 4096)) (e := .int 4096) (L2 := L.set n (dice a b (c + 1))) rfl (k := gDiv)).trans (gDiv_int (by decide) (by decide))
      have z2 := (ev_e2 z1 (fb := eVar 2) (ev_var (d := .int t) rfl) (k := gMod)).trans (gMod_int hp)
      exact (ev_en (ev_one z2)).trans gInt_int
end DS
set_option Elab.async false
set_option linter.all false
set_option maxRecDepth 100000
set_option maxHeartbeats 4000000
namespace DS
open PySem PySem.Spec L2
open PyProof.Rows hiding St

/-! ### what dice do -/
def Dc (n : Nat) (L : Sto) : Prop := ∃ a b c, L[n]? = some (dice a b c)
def Nxt (n : Nat) (L L' : Sto) : Prop := ∃ a b c, L' = L.set n (dice a b c)
theorem Nxt.dc {n : Nat} {L L' : Sto} (h : Nxt n L L') (hd : Dc n L) : Dc n L' := by
  obtain ⟨a, b, c, rfl⟩ := h
  obtain ⟨x, y, z, e⟩ := hd
  exact ⟨a, b, c, set_get e⟩
theorem Nxt.trans {n : Nat} {L L1 L2 : Sto} (h : Nxt n L L1) (k : Nxt n L1 L2) : Nxt n L L2 := by
  obtain ⟨a, b, c, rfl⟩ := h
  obtain ⟨x, y, z, rfl⟩ := k
  exact ⟨x, y, z, set_set'⟩
theorem Nxt.refl {n : Nat} {L : Sto} (hd : Dc n L) : Nxt n L L := by
  obtain ⟨a, b, c, e⟩ := hd
  refine ⟨a, b, c, ?_⟩
  apply List.ext_getElem?
  intro i
  by_cases h : n = i
  · subst h; rw [set_get e, e]
  · rw [List.getElem?_set_ne h]
theorem roll {n : Nat} {L : Sto} {t : Int} (hd : Dc n L) (t1 : 1 ≤ t) (t2 : t ≤ 1000) : ∃ r L', 0 ≤ r ∧ r < t ∧ m_l_roll [.loc n, .int t] L = .ok (.int r) L' ∧ Nxt n L L' ∧ Dc n L' := by
  obtain ⟨a, b, c, e⟩ := hd
  obtain ⟨r, a', b', c', h1, h2, h3⟩ := roll_ok e t1 t2
  exact ⟨r, _, h1, h2, h3, ⟨a', b', c', rfl⟩, ⟨a', b', c', set_get e⟩⟩
theorem one_of {n : Nat} {L : Sto} {xs : List D} (hd : Dc n L) (h1 : 1 ≤ xs.length) (h2 : xs.length ≤ 1000) : ∃ y L', y ∈ xs ∧ m_l_one_of [.loc n, .lst xs] L = .ok y L' ∧ Nxt n L L' ∧ Dc n L' := by
  obtain ⟨r, L', r0, r1, q, hn, hd'⟩ := roll hd (t := (xs.length : Int)) (by omega) (by omega)
  obtain ⟨j, rfl⟩ := Int.eq_ofNat_of_zero_le r0
  have hj : j < xs.length := by omega
  refine ⟨xs[j], L', List.getElem_mem hj, ?_, hn, hd'⟩
  have v1 : eVar 1 (startE 2 [.loc n, .lst xs]) L = .ok (.lst xs) L := rfl
  have v0 : eVar 0 (startE 2 [.loc n, .lst xs]) L = .ok (.loc n) L := rfl
  refine ev_m (ev_ret ((ev_e2 v1 ((ev_call (ev_cons v0 (ev_one ((ev_en (ev_one v1)).trans gLen_lst))) rfl).trans q)).trans (gIx_lst (List.getElem?_eq_getElem hj))))
theorem ints_of {Q : Int → Prop} : ∀ {ys : List D}, (∀ y ∈ ys, ∃ x, y = D.int x ∧ Q x) → ∃ r : List Int, ys = r.map D.int ∧ ∀ x ∈ r, Q x
  | [], _ => ⟨[], rfl, fun _ h => nomatch h⟩
  | y :: ys, h => by
    obtain ⟨x, rfl, hx⟩ := h y (List.mem_cons_self)
    obtain ⟨r, rfl, hr⟩ := ints_of fun z hz => h z (List.mem_cons_of_mem _ hz)
    refine ⟨x :: r, rfl, fun z hz => ?_⟩
    rcases List.mem_cons.mp hz with e | e
    · rw [e]; exact hx
    · exact hr z e
/-- a list of so many rolls -/
theorem rolls {n : Nat} {L1 : Sto} {h : Int} {k : Nat} {it : IF} {f : EF} {i : Nat} {ρ : Env'} {L : Sto} (hd : Dc n L1) (hk : k ≤ 1000) (hi : it ρ L = .ok ⟨(List.range k).map natD, []⟩ L1)
    (hf : ∀ a L, Dc n L → ∃ x L', f ((wipeE ρ [i]).set i (some (natD a))) L = .ok (.int x) L' ∧ Nxt n L L' ∧ 0 ≤ x ∧ x < h) :
    ∃ (r : List Int) (L' : Sto), eLc false [i] it (gSet i) tTrue f ρ L = .ok (.lst (r.map .int)) L' ∧ Nxt n L1 L' ∧ r.length = k ∧ ∀ x ∈ r, 0 ≤ x ∧ x < h := by
  obtain ⟨ys, L', q, q1, q2, q3⟩ := eLc_inv (box := false) (own := [i]) (tg := gSet i) (f := f) (List.range k) natD (fun L => Nxt n L1 L ∧ Dc n L) (fun _ y => ∃ x, y = D.int x ∧ 0 ≤ x ∧ x < h) hi (fun _ _ => srcOk_nil) (by rw [List.length_range]; omega) ⟨.refl hd, hd⟩
    fun a _ L hL => by
      obtain ⟨x, L', f1, f2, f3, f4⟩ := hf a L hL.2
      exact ⟨_, .int x, L', rfl, f1, ⟨hL.1.trans f2, f2.dc hL.2⟩, x, rfl, f3, f4⟩
  obtain ⟨r, rfl, hr⟩ := ints_of (ys := ys) (Q := fun x => 0 ≤ x ∧ x < h) fun y hy => by
    obtain ⟨j, hj⟩ := List.getElem?_of_mem hy
    have hlt : j < (List.range k).length := by rw [← q2]; exact getElem?_lt hj
    exact q3 j _ y (List.getElem?_eq_getElem hlt) hj
  refine ⟨r, L', q, q1.1, ?_, hr⟩
  rw [List.length_map, List.length_range] at q2
  exact q2
theorem drawn_row {n : Nat} {L : Sto} {h : Int} (hd : Dc n L) (h1 : 1 ≤ h) (h2 : h ≤ 20) : ∃ r L', HRow r h ∧ r.length ≤ 12 ∧ m_l_drawn_row [.loc n, .int h] L = .ok (rowD r) L' ∧ Nxt n L L' ∧ Dc n L' := by
  have v0 : ∀ L, eVar 0 (startE 4 [.loc n, .int h]) L = .ok (.loc n) L := fun _ => rfl
  have v1 : ∀ L, eVar 1 (startE 4 [.loc n, .int h]) L = .ok (.int h) L := fun _ => rfl
  obtain ⟨g, L1, g0, g1, gq, gn, gd⟩ := roll hd h1 (by omega)
  have w0 : ∀ L, eVar 0 [some (.loc n), some (.int h), some (.int (1 + g)), none] L = .ok (.loc n) L := fun _ => rfl
  obtain ⟨k, L2, k0, k1, kq, kn, kd⟩ := roll gd (t := 12) (by decide) (by decide)
  obtain ⟨j, rfl⟩ := Int.eq_ofNat_of_zero_le k0
  have hi : iRange1 (aCons (DS.e2 gAdd (eC (.int 1)) (eCall 2 m_l_roll [] (aCons (eVar 0) (aCons (eC (.int 12)) aNil)))) aNil) [some (.loc n), some (.int h), some (.int (1 + g)), none] L1 = .ok ⟨(List.range (1 + j)).map natD, []⟩ L2 := by
    have := range1_ev (fl := aCons (DS.e2 gAdd (eC (.int 1)) (eCall 2 m_l_roll [] (aCons (eVar 0) (aCons (eC (.int 12)) aNil)))) aNil) (ρ := [some (.loc n), some (.int h), some (.int (1 + g)), none]) (L := L1) (L1 := L2) (n := 1 + (j : Int))
      (ev_one ((ev_e2 (d := .int 1) rfl ((ev_call (ev_cons (w0 _) (ev_one (d := .int 12) rfl)) rfl).trans kq)).trans gAdd_int)) (by omega) (by omega)
    rw [this]
    have z : (1 + (j : Int)).toNat = 1 + j := by omega
    rw [z]
  obtain ⟨r, L3, rq, rn, rl, rx⟩ := rolls (f := eCall 2 m_l_roll [] (aCons (eVar 0) (aCons (eCall 2 m_l_one_of [] (aCons (eVar 0) (aCons (eLst false (aCons (eVar 2) (aCons (eVar 1) aNil))) aNil))) aNil))) (i := 3) (h := h) kd (by omega) hi fun a L hL => by
    obtain ⟨y, M, my, mq, mn, md⟩ := one_of hL (xs := [.int (1 + g), .int h]) (show 1 ≤ 2 by decide) (show 2 ≤ 1000 by decide)
    have hy : ∃ t, y = .int t ∧ 1 ≤ t ∧ t ≤ h := by
      rcases List.mem_cons.mp my with e | e
      · exact ⟨_, e, by omega, by omega⟩
      · exact ⟨_, List.mem_singleton.mp e, by omega, by omega⟩
    obtain ⟨t, rfl, t1, t2⟩ := hy
    obtain ⟨x, M2, x0, x1, xq, xn, xd⟩ := roll md t1 (by omega)
    refine ⟨x, M2, ?_, mn.trans xn, x0, by omega⟩
    have u0 : ∀ L, eVar 0 ((wipeE [some (.loc n), some (.int h), some (.int (1 + g)), none] [3]).set 3 (some (natD a))) L = .ok (.loc n) L := fun _ => rfl
    have u1 : ∀ L, eVar 1 ((wipeE [some (.loc n), some (.int h), some (.int (1 + g)), none] [3]).set 3 (some (natD a))) L = .ok (.int h) L := fun _ => rfl
    have u2 : ∀ L, eVar 2 ((wipeE [some (.loc n), some (.int h), some (.int (1 + g)), none] [3]).set 3 (some (natD a))) L = .ok (.int (1 + g)) L := fun _ => rfl
    exact (ev_call (ev_cons (u0 _) (ev_one ((ev_call (ev_cons (u0 _) (ev_one (ev_lst (ev_cons (u2 _) (ev_one (u1 _))) (by show 2 ≤ 16777216; decide)))) rfl).trans mq))) rfl).trans xq
  have hl : (r.map D.int).length ≤ 16777216 := by rw [List.length_map]; omega
  refine ⟨r, L3, ⟨⟨by omega, by omega, fun x hx => (rx x hx).1⟩, h1, h2, fun x hx => (rx x hx).2⟩, by omega, ?_, (gn.trans kn).trans rn, rn.dc kd⟩
  exact ev_m (ev_seq (ev_set ((ev_e2 (d := .int 1) rfl ((ev_call (ev_cons (v0 _) (ev_one (v1 _))) rfl).trans gq)).trans gAdd_int)) (ev_ret ((ev_en (ev_one rq)).trans (gTuple_lst hl))))
end DS
set_option Elab.async false
set_option linter.all false
set_option maxRecDepth 100000
set_option maxHeartbeats 4000000
namespace DS
open PySem PySem.Spec L2
open PyProof.Rows hiding St

/-! ### mixed -/
theorem seen_loc {L : Sto} {n : Nat} {xs : List D} (h : L[n]? = some (.lst xs)) : seen L (.loc n) = .lst xs := by unfold seen; rw [lstOf_loc h]
theorem isL_loc {L : Sto} {n : Nat} {xs : List D} (h : L[n]? = some (.lst xs)) : isL L (.loc n) = true := by unfold isL; rw [sqlOf_loc h]; rfl
theorem okLst (r : List Int) : okD 60 (.lst (r.map .int)) = true := by rw [okD]; exact okDL_ints _ _
theorem gPopAt_ev {L : Sto} {m j : Nat} {xs : List D} {y : D} (h : L[m]? = some (.lst xs)) (hy : xs[j]? = some y) (hj : j ≤ 1000) : gPopAt (.loc m) [.int (j : Int)] L = .ok y (L.set m (.lst (xs.eraseIdx j))) := by
  have e : gPopAt (.loc m) [.int (j : Int)] L = if small62 (j : Int) = true then (match ixN xs.length (j : Int) with
    | some j => (match xs[j]? with
      | some y => .ok y (L.set m (.lst (xs.eraseIdx j)))
      | none => .bad)
    | none => .bad) else .bad := by
    unfold gPopAt
    rw [boxL_loc h]
    try rfl
  rw [e, if_pos (small62_of (by omega) (by omega)), ixN_nat (getElem?_lt hy)]
  dsimp only
  rw [hy]
theorem gAppend_ev {L : Sto} {m : Nat} {xs : List D} {y : D} (h : L[m]? = some (.lst xs)) (hl : xs.length < 16777216) : gAppend (.loc m) [y] L = .ok .non (L.set m (.lst (xs ++ [y]))) := by
  have e : gAppend (.loc m) [y] L = if xs.length < 16777216 then .ok .non (L.set m (.lst (xs ++ [y]))) else .bad := by
    unfold gAppend
    rw [boxL_loc h]
  rw [e, if_pos hl]
theorem gList_lst {L : Sto} {xs : List D} {box : Bool} : gList box [.lst xs] L = lstOut box xs L := rfl
theorem perm_erase {α : Type} : ∀ (xs : List α) (j : Nat) (y : α), xs[j]? = some y → xs.Perm (y :: xs.eraseIdx j)
  | x :: xs, 0, y, h => by simp at h; subst h; exact .refl _
  | x :: xs, j + 1, y, h => by
    have := perm_erase xs j y (by simpa using h)
    rw [List.eraseIdx_cons_succ]
    exact (this.cons x).trans (.swap y x _)
theorem map_erase {α β : Type} (g : α → β) : ∀ (xs : List α) (j : Nat), (xs.map g).eraseIdx j = (xs.eraseIdx j).map g
  | [], _ => rfl
  | x :: xs, 0 => rfl
  | x :: xs, j + 1 => by rw [List.map_cons, List.eraseIdx_cons_succ, map_erase g xs j]; rfl
theorem dice_bel (k : Nat) (a b c : Int) : (dice a b c).bel k = true := belL_ints k [a, b, c]
theorem nxt_len {n : Nat} {L L' : Sto} (h : Nxt n L L') : L'.length = L.length := by obtain ⟨a, b, c, rfl⟩ := h; exact List.length_set
theorem nxt_take {n : Nat} {L L0 : Sto} (h : Nxt n L L0) (tl : List D) : TakeOk L (L0 ++ tl) := by
  have hl := nxt_len h
  refine ⟨by rw [List.length_append]; omega, fun i c hi e => ?_⟩
  rw [List.getElem?_append_left (by omega)] at e
  obtain ⟨x, y, z, rfl⟩ := h
  by_cases hn : n = i
  · subst hn
    rw [List.getElem?_set_self hi] at e
    cases e
    exact .inr (dice_bel _ _ _ _)
  · rw [List.getElem?_set_ne hn] at e
    exact .inl e
theorem mixed_ok {n : Nat} {L : Sto} {is : List Int} (hd : Dc n L) (hl : is.length ≤ 19) : ∃ (fs : List Int) (L' : Sto), fs.Perm is ∧ m_l_mixed [.loc n, .lst (is.map .int)] L = .ok (.lst (fs.map .int)) L' ∧ Nxt n L L' ∧ Dc n L' := by
  have hn : n < L.length := by obtain ⟨a, b, c, e⟩ := hd; exact getElem?_lt e
  have hw := sWhile_inv (t := fun ρ L => asB (DS.e2 gNe (eVar 2) (eLst false aNil) ρ L)) (body := sExpr (eBm (eVar 3) (aCons (eBm (eVar 2) (aCons (eCall 2 m_l_roll [] (aCons (eVar 0) (aCons (en gLen (aCons (eVar 2) aNil)) aNil))) aNil) gPopAt) aNil) gAppend))
    (fun m ρ Lc => ρ = [some (.loc n), some (.lst (is.map .int)), some (.loc L.length), some (.loc (L.length + 1))] ∧ ∃ (l f : List Int) (L0 : Sto), Lc = L0 ++ [.lst (l.map .int), .lst (f.map .int)] ∧ Nxt n L L0 ∧ l.length = m ∧ (l ++ f).Perm is)
    (fun ρ Lc => ρ = [some (.loc n), some (.lst (is.map .int)), some (.loc L.length), some (.loc (L.length + 1))] ∧ ∃ (f : List Int) (L0 : Sto), Lc = L0 ++ [.lst [], .lst (f.map .int)] ∧ Nxt n L L0 ∧ f.Perm is) ?_ 20 is.length
    [some (.loc n), some (.lst (is.map .int)), some (.loc L.length), some (.loc (L.length + 1))] (L ++ [.lst (is.map .int), .lst (([] : List Int).map .int)]) (by omega) ⟨rfl, is, [], L, rfl, .refl hd, rfl, by rw [List.append_nil]⟩
  · obtain ⟨ρ', L', q, rfl, f, L0, rfl, hx, hp⟩ := hw
    have hlen := nxt_len hx
    refine ⟨f, L0, hp, ?_, hx, hx.dc hd⟩
    have qp : sPar 2 3 (aCons (en (gList true) (aCons (eVar 1) aNil)) (aCons (eLst true aNil) aNil)) (startE 4 [.loc n, .lst (is.map .int)]) L = .nx [some (.loc n), some (.lst (is.map .int)), some (.loc L.length), some (.loc (L.length + 1))] (L ++ [.lst (is.map .int), .lst (([] : List Int).map .int)]) := by
      have z1 : en (gList true) (aCons (eVar 1) aNil) (startE 4 [.loc n, .lst (is.map .int)]) L = .ok (.loc L.length) (L ++ [.lst (is.map .int)]) := rfl
      have z2 : eLst true aNil (startE 4 [.loc n, .lst (is.map .int)]) (L ++ [.lst (is.map .int)]) = .ok (.loc (L.length + 1)) (L ++ [.lst (is.map .int)] ++ [.lst []]) := by
        have e : eLst true aNil (startE 4 [.loc n, .lst (is.map .int)]) (L ++ [.lst (is.map .int)]) = if ([] : List D).length ≤ 16777216 then lstOut true [] (L ++ [.lst (is.map .int)]) else .bad := rfl
        rw [e, if_pos (show ([] : List D).length ≤ 16777216 from Nat.zero_le _), lstOut_t, List.length_append]
        rfl
      unfold sPar
      rw [ev_cons z1 (ev_one z2), List.append_assoc]
      rfl
    have qf : F_l_mixed (startE 4 [.loc n, .lst (is.map .int)]) L = .rt (.loc (L.length + 1)) (L0 ++ [.lst [], .lst (f.map .int)]) := ev_seq qp (ev_seq q (ev_ret (ev_var rfl)))
    show dropR L (fin (F_l_mixed (startE 4 [.loc n, .lst (is.map .int)]) L)) = _
    rw [qf]
    refine (dropR_ok (nxt_take hx _) (frz_loc (m := L.length + 1) (c := .lst (f.map .int)) (by omega) ?_ (by exact belL_ints _ _))).trans ?_
    · rw [List.getElem?_append_right (by omega), hlen]
      simp
    · rw [← hlen, List.take_left]
  · rintro m ρ Lc ⟨rfl, l, f, L0, rfl, hx, rfl, hp⟩
    have hlen := nxt_len hx
    have b2 : (L0 ++ [D.lst (l.map .int), .lst (f.map .int)])[L.length]? = some (.lst (l.map .int)) := by rw [List.getElem?_append_right (by omega), hlen]; simp
    have c : DS.e2 gNe (eVar 2) (eLst false aNil) [some (.loc n), some (.lst (is.map .int)), some (.loc L.length), some (.loc (L.length + 1))] (L0 ++ [D.lst (l.map .int), .lst (f.map .int)]) = .ok (.bl (!decide (l = []))) (L0 ++ [D.lst (l.map .int), .lst (f.map .int)]) := by
      rw [ev_e2 (ev_var (d := .loc L.length) rfl) (ev_lst ev_nil (Nat.zero_le _)), gNe_ev (by rw [seen_loc b2]; exact okLst l) (by rw [seen_lst]; exact ok_nil), seen_loc b2, seen_lst, eqD]
      have := eqDL_ints l []
      rw [List.map_nil] at this
      rw [this]
    refine ⟨!decide (l = []), _, ev_asB c, fun hb => ?_, fun hb => ?_⟩
    · have : l = [] := by simpa using hb
      subst this
      exact ⟨rfl, f, L0, rfl, hx, by simpa using hp⟩
    · have hne : l ≠ [] := by simpa using hb
      have hl1 : 1 ≤ l.length := by
        cases l with
        | nil => exact absurd rfl hne
        | cons a t => simp
      have hpl := hp.length_eq
      rw [List.length_append] at hpl
      have hdc : Dc n (L0 ++ [D.lst (l.map .int), .lst (f.map .int)]) := by
        obtain ⟨a, b, c, e⟩ := hx.dc hd
        exact ⟨a, b, c, by rw [List.getElem?_append_left (by omega)]; exact e⟩
      obtain ⟨r, L1, r0, r1, rq, rn, rd⟩ := roll hdc (t := (l.length : Int)) (by omega) (by omega)
      obtain ⟨j, rfl⟩ := Int.eq_ofNat_of_zero_le r0
      have hj : j < l.length := by omega
      obtain ⟨x, y, z, e1⟩ := rn
      rw [List.set_append_left _ _ (by omega)] at e1
      have hx1 : Nxt n L (L0.set n (dice x y z)) := hx.trans ⟨x, y, z, rfl⟩
      have hlen1 := nxt_len hx1
      generalize L0.set n (dice x y z) = L5 at e1 hx1 hlen1
      subst e1
      have b3 : (L5 ++ [D.lst (l.map .int), .lst (f.map .int)])[L.length]? = some (.lst (l.map .int)) := by rw [List.getElem?_append_right (by omega), hlen1]; simp
      have hy : (l.map D.int)[j]? = some (.int l[j]) := by rw [List.getElem?_map, List.getElem?_eq_getElem hj]; rfl
      have qpop := gPopAt_ev b3 hy (by omega)
      rw [List.set_append_right _ _ (by omega), hlen1, Nat.sub_self, List.set_cons_zero] at qpop
      have b4 : (L5 ++ [D.lst ((l.map D.int).eraseIdx j), .lst (f.map .int)])[L.length + 1]? = some (.lst (f.map .int)) := by
        rw [List.getElem?_append_right (by omega), hlen1]; simp
      have b4' : (L0 ++ [D.lst (l.map .int), .lst (f.map .int)])[L.length + 1]? = some (.lst (f.map .int)) := by
        rw [List.getElem?_append_right (by omega), hlen]; simp
      have qapp := gAppend_ev (y := .int l[j]) b4 (by rw [List.length_map]; omega)
      rw [List.set_append_right _ _ (by omega), hlen1, show L.length + 1 - L.length = 1 by omega, List.set_cons_succ, List.set_cons_zero] at qapp
      refine ⟨_, _, l.length - 1, by omega, ev_expr ((ev_bm (ev_var (d := .loc (L.length + 1)) rfl) (isL_loc b4') (ev_one ((ev_bm (ev_var (d := .loc L.length) rfl) (isL_loc b2) (ev_one ((ev_call (ev_cons (ev_var (d := .loc n) rfl) (ev_one ((ev_en (ev_one (ev_var (d := .loc L.length) rfl))).trans (gLen_loc b2)))) rfl).trans ?_))).trans qpop))).trans qapp), rfl, l.eraseIdx j, f ++ [l[j]], L5, ?_, hx1, by rw [List.length_eraseIdx, if_pos hj], ?_⟩
      · rw [List.length_map]; exact rq
      · rw [List.map_append, ← map_erase]; rfl
      · have hpe := perm_erase l j l[j] (List.getElem?_eq_getElem hj)
        refine (List.Perm.trans ?_ (hpe.append_right f).symm).trans hp
        rw [← List.append_assoc]
        exact List.perm_append_comm.trans (by rw [List.singleton_append, List.cons_append])
end DS
set_option Elab.async false
set_option linter.all false
set_option maxRecDepth 100000
set_option maxHeartbeats 4000000
namespace DS
open PySem PySem.Spec L2
open PyProof.Rows hiding St

/-! ### level rows: the plain law -/
theorem sum_add {α : Type} (f g : α → Int) : ∀ xs : List α, (xs.map fun a => f a + g a).sum = (xs.map f).sum + (xs.map g).sum
  | [] => rfl
  | x :: xs => by rw [List.map_cons, List.sum_cons, sum_add f g xs, List.map_cons, List.sum_cons, List.map_cons, List.sum_cons]; omega
theorem sum_zero {α : Type} : ∀ xs : List α, (xs.map fun _ => (0 : Int)).sum = 0
  | [] => rfl
  | x :: xs => by rw [List.map_cons, List.sum_cons, sum_zero xs]; rfl
theorem sum_one (x : Int) (h0 : 0 ≤ x) : ∀ n : Nat, ((List.range n).map fun (i : Nat) => if x = (i : Int) then (1 : Int) else 0).sum = if x < (n : Int) then 1 else 0
  | 0 => by
    have : ¬ x < ((0 : Nat) : Int) := by omega
    rw [if_neg this]; rfl
  | n + 1 => by
    rw [List.range_succ, List.map_append, List.sum_append, sum_one x h0 n, List.map_singleton, List.sum_singleton]
    by_cases h1 : x < (n : Int)
    · rw [if_pos h1, if_neg (by omega), if_pos (by omega)]; rfl
    · rw [if_neg h1]
      by_cases h2 : x = (n : Int)
      · rw [if_pos h2, if_pos (by omega)]; rfl
      · rw [if_neg h2, if_neg (by omega)]; rfl
theorem sum_cnt {h : Int} (h1 : 0 ≤ h) : ∀ r : List Int, (∀ x ∈ r, 0 ≤ x ∧ x < h) → (cnt r h).sum = (r.length : Int)
  | [], _ => by unfold cnt; exact sum_zero _
  | x :: r, hr => by
    have ih := sum_cnt h1 r fun y hy => hr y (List.mem_cons_of_mem _ hy)
    obtain ⟨x0, x1⟩ := hr x (List.mem_cons_self)
    have e : cnt (x :: r) h = (List.range h.toNat).map fun (i : Nat) => ((r.count (i : Int) : Nat) : Int) + (if x = (i : Int) then (1 : Int) else 0) := by
      unfold cnt
      refine List.map_congr_left fun i _ => ?_
      rw [List.count_cons]
      by_cases hx : x = (i : Int)
      · rw [if_pos hx, if_pos (by simpa using hx)]; omega
      · rw [if_neg hx, if_neg (by simpa using hx)]; omega
    rw [e, sum_add, sum_one x x0, if_pos (by omega), List.length_cons]
    unfold cnt at ih
    rw [ih]
    omega
theorem two_val (m : Int) : ∀ cs : List Int, (∀ x ∈ cs, x = m ∨ x = m + 1) → ∃ k : Nat, k ≤ cs.length ∧ cs.Perm (List.replicate k (m + 1) ++ List.replicate (cs.length - k) m) ∧ cs.sum = m * cs.length + k
  | [], _ => ⟨0, Nat.le_refl _, .refl _, by simp⟩
  | x :: cs, h => by
    obtain ⟨k, k1, k2, k3⟩ := two_val m cs fun y hy => h y (List.mem_cons_of_mem _ hy)
    rw [List.length_cons, List.sum_cons, k3]
    have hm : m * ((cs.length + 1 : Nat) : Int) = m * cs.length + m := by
      rw [Int.natCast_add, Int.mul_add]; simp
    rcases h x (List.mem_cons_self) with e | e
    · subst e
      refine ⟨k, by omega, ?_, by omega⟩
      have e2 : cs.length + 1 - k = (cs.length - k) + 1 := by omega
      rw [e2, List.replicate_succ]
      exact (k2.cons x).trans List.perm_middle.symm
    · refine ⟨k + 1, by omega, ?_, by rw [hm, e]; omega⟩
      have e2 : cs.length + 1 - (k + 1) = cs.length - k := by omega
      rw [e2, List.replicate_succ, e]
      exact k2.cons _
theorem lvl_rep {s h : Int} (h1 : 1 ≤ h) : lvl s h = List.replicate (s % h).toNat (s / h + 1) ++ List.replicate (h.toNat - (s % h).toNat) (s / h) := by
  have m0 := Int.emod_nonneg s (by omega : h ≠ 0)
  have m1 := Int.emod_lt_of_pos s (by omega : 0 < h)
  apply List.ext_getElem?
  intro i
  unfold lvl
  rw [List.getElem?_map]
  by_cases hi : i < h.toNat
  · rw [List.getElem?_range hi]
    by_cases ht : i < (s % h).toNat
    · rw [List.getElem?_append_left (by rw [List.length_replicate]; exact ht), List.getElem?_replicate, if_pos ht]
      show some (s / h + (if (i : Int) < s % h then 1 else 0)) = _
      rw [if_pos (by omega)]
    · rw [List.getElem?_append_right (by rw [List.length_replicate]; omega), List.length_replicate, List.getElem?_replicate, if_pos (by omega)]
      show some (s / h + (if (i : Int) < s % h then 1 else 0)) = _
      rw [if_neg (by omega), Int.add_zero]
  · rw [List.getElem?_eq_none (by rw [List.length_range]; omega), List.getElem?_eq_none (by rw [List.length_append, List.length_replicate, List.length_replicate]; omega)]
    rfl
theorem mx_mem {ns : List Int} (h : ns ≠ []) : mx ns ∈ ns ∧ ∀ y ∈ ns, y ≤ mx ns := by
  unfold mx
  cases q : ns.max? with
  | none => exact absurd (List.max?_eq_none_iff.mp q) h
  | some m => exact List.max?_eq_some_iff.mp q
theorem mn_mem {ns : List Int} (h : ns ≠ []) : mn ns ∈ ns ∧ ∀ y ∈ ns, mn ns ≤ y := by
  unfold mn
  cases q : ns.min? with
  | none => exact absurd (List.min?_eq_none_iff.mp q) h
  | some m => exact List.min?_eq_some_iff.mp q
theorem level_perm {r : List Int} {h : Int} (hr : HRow r h) : sprd r h < 2 ↔ (cnt r h).Perm (lvl r.length h) := by
  have h1 := hr.h1
  have hne : cnt r h ≠ [] := cnt_ne h1
  obtain ⟨a1, a2⟩ := mx_mem hne
  obtain ⟨b1, b2⟩ := mn_mem hne
  constructor
  · intro hs
    unfold sprd at hs
    obtain ⟨k, k1, k2, k3⟩ := two_val (mn (cnt r h)) (cnt r h) fun x hx => by
      have := a2 x hx
      have := b2 x hx
      omega
    rw [cnt_length] at k1 k2 k3
    rw [sum_cnt (by omega) r fun x hx => ⟨hr.nn x hx, hr.lt x hx⟩] at k3
    have hh : ((h.toNat : Nat) : Int) = h := by omega
    rw [hh] at k3
    -- k is below h: the least one is there
    have hk : (k : Int) < h := by
      rcases Nat.lt_or_ge k h.toNat with z | z
      · omega
      · exfalso
        have : h.toNat - k = 0 := by omega
        rw [this, List.replicate_zero, List.append_nil] at k2
        have := List.eq_of_mem_replicate (k2.mem_iff.mp b1)
        omega
    have e1 : (r.length : Int) / h = mn (cnt r h) := by
      rw [k3, Int.add_comm, Int.add_mul_ediv_right _ _ (by omega : h ≠ 0), Int.ediv_eq_zero_of_lt (by omega) hk]
      omega
    have e2 : (r.length : Int) % h = k := by
      rw [k3, Int.add_comm, Int.add_mul_emod_self_right, Int.emod_eq_of_lt (by omega) hk]
    rw [lvl_rep h1, e1, e2]
    exact k2
  · intro hp
    have hv : ∀ x ∈ cnt r h, x = (r.length : Int) / h + 1 ∨ x = (r.length : Int) / h := fun x hx => by
      have := hp.mem_iff.mp hx
      rw [lvl_rep h1] at this
      rcases List.mem_append.mp this with z | z
      · exact .inl (List.eq_of_mem_replicate z)
      · exact .inr (List.eq_of_mem_replicate z)
    unfold sprd
    have := hv _ a1
    have := hv _ b1
    omega
theorem lvl_desc (s : Int) {h : Int} (h1 : 1 ≤ h) : (lvl s h).Pairwise (fun a b => b ≤ a) := by
  rw [lvl_rep h1, List.pairwise_append]
  refine ⟨List.pairwise_replicate.mpr (.inr (Int.le_refl _)), List.pairwise_replicate.mpr (.inr (Int.le_refl _)), fun a ha b hb => ?_⟩
  rw [List.eq_of_mem_replicate ha, List.eq_of_mem_replicate hb]
  omega
theorem level_iff {r : List Int} {h : Int} (hr : HRow r h) : decide (sprd r h < 2) = decide ((srtI (cnt r h)).reverse = lvl r.length h) := by
  have h1 := hr.h1
  refine decide_eq_decide.mpr ((level_perm hr).trans ⟨fun hp => ?_, fun he => ?_⟩)
  · have e : (lvl r.length h).reverse = srtI (cnt r h) := srtI_unique ((List.reverse_perm _).trans hp.symm) (List.pairwise_reverse.mpr (lvl_desc _ h1))
    rw [← e, List.reverse_reverse]
  · rw [← he]
    exact (srtI_perm _).symm.trans (List.reverse_perm _).symm
end DS
set_option Elab.async false
set_option linter.all false
set_option maxRecDepth 100000
set_option maxHeartbeats 4000000
namespace DS
open PySem PySem.Spec L2
open PyProof.Rows hiding St

/-! ### the law's look at a row -/
theorem ok_bl (n : Nat) (b : Bool) : okD n (.bl b) = true := by cases n <;> rfl
theorem ok_int (n : Nat) (b : Int) : okD n (.int b) = true := by cases n <;> rfl
theorem eqD_row (r s : List Int) : eqD (rowD r) (rowD s) = decide (r = s) := by rw [eqD, eqDL_ints]
theorem eqD_refl_bl (b : Bool) : eqD (.bl b) (.bl b) = true := by show (b == b) = true; exact beq_self_eq_true b
theorem eqD_refl_int (b : Int) : eqD (.int b) (.int b) = true := by show (b == b) = true; exact beq_self_eq_true b
theorem okRow' (n : Nat) (r : List Int) : okD (n + 1) (rowD r) = true := by rw [okD]; exact okDL_ints _ _
theorem told_ok {r : List Int} {h : Int} (a : List Int) (x : Int) (b : Bool) (L : Sto) : gNe (.lst [rowD a, .int x, .bl b]) (.lst [rowD a, .int x, .bl b]) L = .ok (.bl false) L := by
  have k : okD 60 (.lst [rowD a, .int x, .bl b]) = true := by
    rw [okD, okDL, okDL, okDL, okDL, ok_int, ok_bl, okRow' 58]; rfl
  rw [gNe_ev (by rw [seen_lst]; exact k) (by rw [seen_lst]; exact k), seen_lst, eqD, eqDL, eqDL, eqDL, eqDL, eqD_row, eqD_refl_int, eqD_refl_bl, decide_eq_true rfl]
  rfl
theorem c1_right {r : List Int} (hl : r.length ≤ 20) (i : Int) (h x2 x3 x4 x6 x7 : Option D) (L : Sto) : C1_l_counts_right [some (rowD r), h, x2, x3, x4, some (.int i), x6, x7] L = .ok (.lst ((places r i).map natD)) L := by
  refine eLc_filter (box := false) (List.range r.length) natD (fun j => decide (r.getD j 0 = i)) natD (range1_ev (n := (r.length : Int)) (L1 := L) ?_ (by omega) (by omega)) srcOk_nil (by rw [List.length_range]; omega) fun a ha => ⟨_, rfl, ?_, fun _ => rfl⟩
  · refine ev_one ((ev_en (ev_one (ev_var (d := rowD r) rfl))).trans ?_)
    rw [gLen_tg, List.length_map]
  · have hg : (r.map D.int)[a]? = some (.int (r.getD a 0)) := by
      have := List.mem_range.mp ha
      rw [List.getElem?_map, List.getElem?_eq_getElem this]
      simp [List.getD, this]
    refine ev_asB (fa := DS.e2 gEq (DS.e2 gIx (eVar 0) (eVar 7)) (eVar 5)) ?_
    exact (ev_e2 ((ev_e2 (ev_var (d := rowD r) rfl) (ev_var (d := natD a) rfl)).trans (gIx_tg hg)) (ev_var (d := .int i) rfl)).trans gEq_int
theorem rowD_nats (ns : List Nat) : D.tg (ns.map natD) = rowD (ns.map fun (j : Nat) => (j : Int)) := by rw [natD_map]
theorem l1_right {r : List Int} {h : Int} (hr : HRow r h) (x2 x3 x6 x7 : Option D) (L : Sto) : ∃ x5, L1_l_counts_right [some (rowD r), some (.int h), x2, x3, some (partsD r h), none, x6, x7] L = .nx [some (rowD r), some (.int h), x2, x3, some (partsD r h), x5, x6, x7] L := by
  have h1 := hr.h1
  have h2 := hr.h2
  have l2 := hr.l2
  have := sFor_inv (fi := iRange1 (aCons (eVar 1) aNil)) (tg := gSet 5) (body := sIf (fun ρ L => asB ((DS.e2 gNe (DS.e2 gIx (eVar 4) (eVar 5)) (en gTuple (aCons C1_l_counts_right aNil))) ρ L)) (sRet (eC (.bl false))) sSkip)
    (ρ := [some (rowD r), some (.int h), x2, x3, some (partsD r h), none, x6, x7]) (L := L) (range1_ev (n := h) (L1 := L) rfl (by omega) (by omega))
    (fun i ρ L' => ∃ x5, ρ = [some (rowD r), some (.int h), x2, x3, some (partsD r h), x5, x6, x7] ∧ L' = L) ⟨none, rfl, rfl⟩ ?_
  · obtain ⟨ρ', L', q, x5, rfl, rfl⟩ := this
    exact ⟨x5, q⟩
  · rintro i d ρ L' hd ⟨x5, rfl, rfl⟩
    dsimp only at hd
    rw [List.getElem?_map] at hd
    obtain ⟨v, hv, rfl⟩ := Option.map_eq_some_iff.mp hd
    have hvi : v < h.toNat := List.mem_range.mp (List.mem_of_getElem? hv)
    refine ⟨_, [some (rowD r), some (.int h), x2, x3, some (partsD r h), some (natD v), x6, x7], L', rfl, ev_skip ?_, srcOk_nil, _, rfl, rfl⟩
    have hp : ((List.range h.toNat).map fun (i : Nat) => D.tg ((places r i).map natD))[v]? = some (.tg ((places r v).map natD)) := by rw [List.getElem?_map, List.getElem?_range hvi]; rfl
    have hl : ((places r v).map natD).length ≤ 16777216 := by
      have := places_length r v
      rw [List.length_map]; omega
    refine ev_asB (fa := DS.e2 gNe (DS.e2 gIx (eVar 4) (eVar 5)) (en gTuple (aCons C1_l_counts_right aNil))) ?_
    refine (ev_e2 ((ev_e2 (ev_var (d := partsD r h) rfl) (ev_var (d := natD v) rfl)).trans (gIx_tg hp)) ((ev_en (ev_one (c1_right l2 v (some (.int h)) x2 x3 (some (partsD r h)) x6 x7 L'))).trans (gTuple_lst hl))).trans ?_
    rw [rowD_nats, gNe_row, decide_eq_true rfl]
    rfl
theorem counts_right_ok {r : List Int} {h : Int} (hr : HRow r h) (L : Sto) : m_l_counts_right [rowD r, .int h] L = .ok (.bl true) L := by
  have h1 := hr.h1
  have h2 := hr.h2
  have l1 := hr.l1
  have l2 := hr.l2
  have v0 : ∀ (x2 x3 x4 x5 x6 x7 : Option D), eVar 0 [some (rowD r), some (.int h), x2, x3, x4, x5, x6, x7] L = .ok (rowD r) L := fun _ _ _ _ _ _ => rfl
  have v1 : ∀ (x2 x3 x4 x5 x6 x7 : Option D), eVar 1 [some (rowD r), some (.int h), x2, x3, x4, x5, x6, x7] L = .ok (.int h) L := fun _ _ _ _ _ _ => rfl
  have a01 : ∀ (x2 x3 x4 x5 x6 x7 : Option D), aCons (eVar 0) (aCons (eVar 1) aNil) [some (rowD r), some (.int h), x2, x3, x4, x5, x6, x7] L = .ok [rowD r, .int h] L := fun _ _ _ _ _ _ => rfl
  have hcl : ((cnt r h).map D.int).length ≤ 16777216 := by rw [List.length_map, cnt_length]; omega
  have hll : ((lvl r.length h).map D.int).length ≤ 16777216 := by rw [List.length_map, lvl_length]; omega
  have alen : ∀ (x2 x3 x4 x5 x6 x7 : Option D), aCons (en gLen (aCons (eVar 0) aNil)) (aCons (eVar 1) aNil) [some (rowD r), some (.int h), x2, x3, x4, x5, x6, x7] L = .ok [.int r.length, .int h] L := fun _ _ _ _ _ _ => by
    refine ev_cons (d := .int r.length) (L1 := L) ?_ rfl
    refine (ev_en (ev_one (v0 _ _ _ _ _ _))).trans ?_
    rw [gLen_tg, List.length_map]
  have told : eLst false (aCons (eCall 2 m_sizes [] (aCons (eVar 0) (aCons (eVar 1) aNil))) (aCons (eCall 2 m_spread [] (aCons (eVar 0) (aCons (eVar 1) aNil))) (aCons (eCall 2 m_is_level [] (aCons (eVar 0) (aCons (eVar 1) aNil))) aNil))) [some (rowD r), some (.int h), some (.lst ((cnt r h).map .int)), none, none, none, none, none] L = .ok (.lst [rowD (cnt r h), .int (sprd r h), .bl (decide (sprd r h < 2))]) L :=
    ev_lst (ev_cons ((ev_call (a01 _ _ _ _ _ _) rfl).trans (sizes_ok hr L)) (ev_cons ((ev_call (a01 _ _ _ _ _ _) rfl).trans (spread_ok hr L)) (ev_one ((ev_call (a01 _ _ _ _ _ _) rfl).trans (is_level_ok hr L))))) (show 3 ≤ 16777216 by decide)
  have w2 : ∀ (x3 x4 x5 x6 x7 : Option D), eVar 2 [some (rowD r), some (.int h), some (.lst ((cnt r h).map .int)), x3, x4, x5, x6, x7] L = .ok (.lst ((cnt r h).map .int)) L := fun _ _ _ _ _ => rfl
  have dif : ∀ (x3 x4 x5 x6 x7 : Option D), DS.e2 gSub (en gMax (aCons (eVar 2) aNil)) (en gMin (aCons (eVar 2) aNil)) [some (rowD r), some (.int h), some (.lst ((cnt r h).map .int)), x3, x4, x5, x6, x7] L = .ok (.int (sprd r h)) L := fun _ _ _ _ _ =>
    (ev_e2 ((ev_en (ev_one (w2 _ _ _ _ _))).trans (gMax_ints (cnt_ne h1) L)) ((ev_en (ev_one (w2 _ _ _ _ _))).trans (gMin_ints (cnt_ne h1) L))).trans gSub_int
  have due : eLst false (aCons (en gTuple (aCons (eVar 2) aNil)) (aCons (DS.e2 gSub (en gMax (aCons (eVar 2) aNil)) (en gMin (aCons (eVar 2) aNil))) (aCons (DS.e2 gLt (DS.e2 gSub (en gMax (aCons (eVar 2) aNil)) (en gMin (aCons (eVar 2) aNil))) (eC (.int 2))) aNil)))
      [some (rowD r), some (.int h), some (.lst ((cnt r h).map .int)), some (.lst [rowD (cnt r h), .int (sprd r h), .bl (decide (sprd r h < 2))]), none, none, none, none] L = .ok (.lst [rowD (cnt r h), .int (sprd r h), .bl (decide (sprd r h < 2))]) L :=
    ev_lst (ev_cons ((ev_en (ev_one (w2 _ _ _ _ _))).trans (gTuple_lst hcl)) (ev_cons (dif _ _ _ _ _) (ev_one ((ev_e2 (dif _ _ _ _ _) (e := .int 2) rfl).trans gLt_int)))) (show 3 ≤ 16777216 by decide)
  obtain ⟨x5, loop⟩ := l1_right hr (some (.lst ((cnt r h).map .int))) (some (.lst [rowD (cnt r h), .int (sprd r h), .bl (decide (sprd r h < 2))])) none none L
  have srt : gSort false [.lst ((cnt r h).map .int)] L = .ok (.lst ((srtI (cnt r h)).map .int)) L := by
    unfold gSort
    simp only [seqOf_lst, dInts_map, lstOut_f]
  have rev : ∀ (x3 x4 x5 x6 x7 : Option D), en gTuple (aCons (eRev (en (gSort false) (aCons (eVar 2) aNil))) aNil) [some (rowD r), some (.int h), some (.lst ((cnt r h).map .int)), x3, x4, x5, x6, x7] L = .ok (rowD (srtI (cnt r h)).reverse) L := fun x3 x4 x5 x6 x7 => by
    have z : eRev (en (gSort false) (aCons (eVar 2) aNil)) [some (rowD r), some (.int h), some (.lst ((cnt r h).map .int)), x3, x4, x5, x6, x7] L = .ok (.lst ((srtI (cnt r h)).reverse.map .int)) L := by
      unfold eRev
      rw [(ev_en (ev_one (w2 _ _ _ _ _))).trans srt, Res.bind_ok, sqlOf_lst, List.map_reverse]
    refine (ev_en (ev_one z)).trans (gTuple_lst ?_)
    rw [List.length_map, List.length_reverse, (srtI_perm _).length_eq, cnt_length]; omega
  refine ev_m (ev_seq (ev_set ((ev_call (ev_cons (v1 none none none none none none) (ev_one (v0 none none none none none none))) rfl).trans (l_counts_ok hr L))) (ev_seq (ev_set told) (ev_seq (ev_skip (L1 := L) ?c1) (ev_seq (ev_set ((ev_call (a01 _ _ _ _ _ _) rfl).trans (classes_ok hr L)))
    (ev_seq loop (ev_seq (ev_set ((ev_en (ev_one ((ev_call (alen _ _ _ _ _ _) rfl).trans (level_counts_ok (by omega) h1 h2 L)))).trans (gTuple_lst hll))) (ev_seq (ev_skip (L1 := L) ?c2) (ev_ret ?c3))))))))
  case c1 =>
    refine ev_asB (fa := DS.e2 gNe _ _) ((ev_e2 (ev_var (d := .lst [rowD (cnt r h), .int (sprd r h), .bl (decide (sprd r h < 2))]) rfl) due).trans (told_ok (r := r) (h := h) _ _ _ L))
  case c2 =>
    refine ev_or_f (ev_asB (fa := DS.e2 gNe _ _) ((ev_e2 ((ev_call (alen _ _ _ _ _ _) rfl).trans (level_sizes_ok (by omega) (by omega) h1 h2 L)) (ev_var (d := rowD (lvl r.length h)) rfl)).trans ?_)) (ev_asB (fa := DS.e2 gNe _ _) ((ev_e2 ((ev_call (a01 _ _ _ _ _ _) rfl).trans (is_level_ok hr L)) ((ev_e2 (rev _ _ _ _ _) (ev_var (d := rowD (lvl r.length h)) rfl)).trans (gEq_row _ _ L))).trans ?_))
    · rw [gNe_row, decide_eq_true rfl]; rfl
    · rw [level_iff hr, gNe_ev (ok_bl _ _) (ok_bl _ _), seen_bl, eqD_refl_bl]; rfl
  case c3 =>
    refine ev_and_t ((ev_e2 ((ev_call (ev_one (ev_var (d := partsD r h) rfl)) rfl).trans (row_of_ok hr L)) (ev_var (d := rowD r) rfl)).trans ((gEq_row r r L).trans (by rw [decide_eq_true rfl]))) ?_
    refine (ev_e2 ((ev_en (ev_one (ev_var (d := partsD r h) rfl))).trans gLen_tg) (ev_var (d := .int h) rfl)).trans ?_
    rw [gEq_int, List.length_map, List.length_range, decide_eq_true (by omega)]
end DS
set_option Elab.async false
set_option linter.all false
set_option maxRecDepth 100000
set_option maxHeartbeats 4000000
namespace DS
open PySem PySem.Spec L2
open PyProof.Rows hiding St

/-! ### rows with other hues -/
theorem exch_exch (a b x : Int) : exch b a (exch a b x) = x := by
  unfold exch
  by_cases h1 : x = a
  · subst h1; simp
  · by_cases h2 : x = b
    · subst h2; simp [h1]
    · simp [h1, h2]
theorem exch_in {a b x h : Int} (a0 : 0 ≤ a) (a1 : a < h) (b0 : 0 ≤ b) (b1 : b < h) (x0 : 0 ≤ x) (x1 : x < h) : 0 ≤ exch a b x ∧ exch a b x < h := by
  unfold exch
  split
  · exact ⟨b0, b1⟩
  · split
    · exact ⟨a0, a1⟩
    · exact ⟨x0, x1⟩
theorem HRow.map {r : List Int} {h : Int} (hr : HRow r h) {f : Int → Int} (hf : ∀ x, 0 ≤ x → x < h → 0 ≤ f x ∧ f x < h) : HRow (r.map f) h :=
  ⟨⟨by rw [List.length_map]; exact hr.l1, by rw [List.length_map]; exact hr.l2, fun y hy => by
    obtain ⟨x, hx, rfl⟩ := List.mem_map.mp hy
    exact (hf x (hr.nn x hx) (hr.lt x hx)).1⟩, hr.h1, hr.h2, fun y hy => by
    obtain ⟨x, hx, rfl⟩ := List.mem_map.mp hy
    exact (hf x (hr.nn x hx) (hr.lt x hx)).2⟩
theorem mem_map_inj {f : Int → Int} {P : Int → Prop} (inj : ∀ x y, P x → P y → f x = f y → x = y) {acc : List Int} {x : Int} (ha : ∀ y ∈ acc, P y) (hx : P x) : f x ∈ acc.map f ↔ x ∈ acc := by
  constructor
  · intro h
    obtain ⟨y, hy, e⟩ := List.mem_map.mp h
    exact inj y x (ha y hy) hx e ▸ hy
  · exact fun h => List.mem_map_of_mem h
theorem foldl_map {f : Int → Int} {P : Int → Prop} (inj : ∀ x y, P x → P y → f x = f y → x = y) : ∀ (xs acc : List Int), (∀ x ∈ xs, P x) → (∀ x ∈ acc, P x) → (xs.map f).foldl step1 (acc.map f) = (xs.foldl step1 acc).map f
  | [], _, _, _ => rfl
  | x :: xs, acc, h, ha => by
    have hx := h x (List.mem_cons_self)
    have e : step1 (acc.map f) (f x) = (step1 acc x).map f := by
      unfold step1
      by_cases hm : x ∈ acc
      · rw [if_pos hm, if_pos ((mem_map_inj inj ha hx).mpr hm)]
      · rw [if_neg hm, if_neg fun z => hm ((mem_map_inj inj ha hx).mp z), List.map_append]; rfl
    rw [List.map_cons, List.foldl_cons, List.foldl_cons, e]
    refine foldl_map inj xs (step1 acc x) (fun y hy => h y (List.mem_cons_of_mem _ hy)) fun y hy => ?_
    unfold step1 at hy
    split at hy
    · exact ha y hy
    · rcases List.mem_append.mp hy with z | z
      · exact ha y z
      · rw [List.mem_singleton.mp z]; exact hx
theorem idxOf_map {f : Int → Int} {P : Int → Prop} (inj : ∀ x y, P x → P y → f x = f y → x = y) {x : Int} (hx : P x) : ∀ (o : List Int), (∀ y ∈ o, P y) → (o.map f).idxOf (f x) = o.idxOf x
  | [], _ => rfl
  | y :: o, h => by
    have hy := h y (List.mem_cons_self)
    rw [List.map_cons, List.idxOf_cons, List.idxOf_cons, idxOf_map inj hx o fun z hz => h z (List.mem_cons_of_mem _ hz)]
    by_cases e : y = x
    · subst e; simp
    · have e2 : f y ≠ f x := fun z => e (inj y x hy hx z)
      have h1 : (y == x) = false := by simpa using e
      have h2 : (f y == f x) = false := by simpa using e2
      rw [h1, h2]
theorem nmd_map {r : List Int} {f : Int → Int} {P : Int → Prop} (inj : ∀ x y, P x → P y → f x = f y → x = y) (hr : ∀ x ∈ r, P x) : nmd (r.map f) = nmd r := by
  have e : firsts (r.map f) = (firsts r).map f := foldl_map inj r [] hr fun _ h => nomatch h
  unfold nmd
  rw [e, List.map_map]
  refine List.map_congr_left fun x hx => ?_
  show (((firsts r).map f).idxOf (f x) : Int) = _
  rw [idxOf_map inj (hr x hx) (firsts r) fun y hy => hr y ((mem_firsts r y).mp hy)]
/-- hues in another order -/
def turn (fs : List Int) (x : Int) : Int := fs.getD x.toNat 0
def rgI (h : Int) : List Int := (List.range h.toNat).map fun (i : Nat) => (i : Int)
theorem rgI_nodup (h : Int) : (rgI h).Nodup := by
  unfold rgI List.Nodup
  rw [List.pairwise_map]
  exact (List.nodup_range (n := h.toNat)).imp fun {a b} hab e => hab (by omega)
theorem rgI_len (h : Int) : (rgI h).length = h.toNat := by unfold rgI; simp
theorem turn_get {fs : List Int} {h x : Int} (hp : fs.Perm (rgI h)) (x0 : 0 ≤ x) (x1 : x < h) : ∃ hl : x.toNat < fs.length, turn fs x = fs[x.toNat] := by
  have hl := hp.length_eq
  rw [rgI_len] at hl
  have h2 : x.toNat < fs.length := by omega
  exact ⟨h2, by unfold turn; simp [List.getD, h2]⟩
theorem turn_in {fs : List Int} {h x : Int} (hp : fs.Perm (rgI h)) (x0 : 0 ≤ x) (x1 : x < h) : 0 ≤ turn fs x ∧ turn fs x < h := by
  obtain ⟨hl, e⟩ := turn_get hp x0 x1
  have hm : turn fs x ∈ rgI h := hp.mem_iff.mp (e ▸ List.getElem_mem hl)
  unfold rgI at hm
  obtain ⟨i, hi, e2⟩ := List.mem_map.mp hm
  have := List.mem_range.mp hi
  omega
theorem turn_inj {fs : List Int} {h : Int} (hp : fs.Perm (rgI h)) : ∀ x y, (0 ≤ x ∧ x < h) → (0 ≤ y ∧ y < h) → turn fs x = turn fs y → x = y := fun x y hx hy e => by
  obtain ⟨h1, e1⟩ := turn_get hp hx.1 hx.2
  obtain ⟨h2, e2⟩ := turn_get hp hy.1 hy.2
  rw [e1, e2] at e
  have nd : fs.Nodup := hp.symm.nodup (rgI_nodup h)
  have := (List.getElem_inj nd).mp e
  omega
theorem cnt_rg (r : List Int) (h : Int) : cnt r h = (rgI h).map fun i => ((r.count i : Nat) : Int) := by unfold cnt rgI; rw [List.map_map]; rfl
theorem fs_turn {fs : List Int} {h : Int} (hp : fs.Perm (rgI h)) : fs = (rgI h).map (turn fs) := by
  have hl := hp.length_eq
  rw [rgI_len] at hl
  apply List.ext_getElem?
  intro i
  unfold rgI
  rw [List.map_map, List.getElem?_map]
  by_cases hi : i < h.toNat
  · rw [List.getElem?_range hi, List.getElem?_eq_getElem (by omega)]
    show some _ = some (turn fs (i : Int))
    unfold turn
    have : i < fs.length := by omega
    simp [List.getD, this]
  · rw [List.getElem?_eq_none (by omega), List.getElem?_eq_none (by rw [List.length_range]; omega)]
    rfl
theorem count_map_inj {f : Int → Int} {P : Int → Prop} (inj : ∀ x y, P x → P y → f x = f y → x = y) {x : Int} (hx : P x) : ∀ r : List Int, (∀ y ∈ r, P y) → (r.map f).count (f x) = r.count x
  | [], _ => rfl
  | y :: r, h => by
    have hy := h y (List.mem_cons_self)
    rw [List.map_cons, List.count_cons, List.count_cons, count_map_inj inj hx r fun z hz => h z (List.mem_cons_of_mem _ hz)]
    by_cases e : y = x
    · subst e; simp
    · have e2 : f y ≠ f x := fun z => e (inj y x hy hx z)
      have h1 : (y == x) = false := by simpa using e
      have h2 : (f y == f x) = false := by simpa using e2
      rw [h1, h2]
theorem cnt_turn {r fs : List Int} {h : Int} (hr : HRow r h) (hp : fs.Perm (rgI h)) : (cnt (r.map (turn fs)) h).Perm (cnt r h) := by
  rw [cnt_rg, cnt_rg]
  refine ((hp.symm.map _)).trans ?_
  have e : fs.map (fun i => (((r.map (turn fs)).count i : Nat) : Int)) = (rgI h).map fun i => ((r.count i : Nat) : Int) := by
    conv => lhs; rw [fs_turn hp]
    rw [List.map_map]
    refine List.map_congr_left fun i hi => ?_
    have hi2 : 0 ≤ i ∧ i < h := by
      unfold rgI at hi
      obtain ⟨j, hj, rfl⟩ := List.mem_map.mp hi
      have := List.mem_range.mp hj
      exact ⟨by omega, by omega⟩
    have := count_map_inj (turn_inj hp) hi2 r fun y hy => ⟨hr.nn y hy, hr.lt y hy⟩
    show ((((r.map (turn ((rgI h).map (turn fs)))).count (turn fs i) : Nat)) : Int) = _
    rw [← fs_turn hp, this]
  rw [e]
theorem srt_turn {r fs : List Int} {h : Int} (hr : HRow r h) (hp : fs.Perm (rgI h)) : srtI (cnt (r.map (turn fs)) h) = srtI (cnt r h) :=
  srtI_unique ((srtI_perm _).trans (cnt_turn hr hp)) (srtI_sorted _)
theorem nmd_turn {r fs : List Int} {h : Int} (hr : HRow r h) (hp : fs.Perm (rgI h)) : nmd (r.map (turn fs)) = nmd r := nmd_map (turn_inj hp) fun x hx => ⟨hr.nn x hx, hr.lt x hx⟩
end DS
set_option Elab.async false
set_option linter.all false
set_option maxRecDepth 100000
set_option maxHeartbeats 4000000
namespace DS
open PySem PySem.Spec L2
open PyProof.Rows hiding St

/-! ### things that are no rows -/
theorem is_row_not {d : D} (h : eIsi .tup (eVar 0) [some d, none] = fun L => .ok (.bl false) L) (L : Sto) : m_is_row [d] L = .ok (.bl false) L := by
  have z : eIsi .tup (eVar 0) (startE 2 [d]) L = .ok (.bl false) L := congrFun h L
  exact ev_m (ev_seqR (ev_if_t (ev_or_t (ev_not (b := false) (ev_tru z))) (ev_ret rfl)))
theorem len_chain {d : D} {n : Nat} {L : Sto} (hl : gLen [d] L = .ok (.int (n : Int)) L) : eChain gLe gLe (eC (.int 1)) (en gLen (aCons (eVar 0) aNil)) (eC (.int 20)) [some d, none] L = .ok (.bl (decide (1 ≤ n) && decide (n ≤ 20))) L := by
  have z : en gLen (aCons (eVar 0) aNil) [some d, none] L = .ok (.int (n : Int)) L := (ev_en (ev_one (ev_var rfl))).trans hl
  have c : eC (.int 1) [some d, none] L = .ok (.int 1) L := rfl
  unfold eChain
  rw [c, Res.bind_ok, z, Res.bind_ok, gLe_int, asB_bl, Res.bind_ok]
  by_cases h : 1 ≤ n
  · have h2 : (1 : Int) ≤ (n : Int) := by omega
    have c2 : eC (.int 20) [some d, none] L = .ok (.int 20) L := rfl
    rw [decide_eq_true h2, if_pos rfl, c2, Res.bind_ok, gLe_int, decide_eq_true h, Bool.true_and]
    congr 2
    exact decide_eq_decide.mpr (by omega)
  · have h2 : ¬ (1 : Int) ≤ (n : Int) := by omega
    rw [decide_eq_false h2, if_neg (by decide), decide_eq_false h, Bool.false_and]
theorem is_row_gen {d : D} {xs : List D} (p : D → Bool) (L : Sto) (hd : eIsi .tup (eVar 0) [some d, none] L = .ok (.bl true) L) (hs : seqOf L d = some (xs, [])) (hl : gLen [d] L = .ok (.int (xs.length : Int)) L)
    (h : ∀ x ∈ xs, m_is_integer [x, .int 0, .non] L = .ok (.bl (p x)) L) : m_is_row [d] L = .ok (.bl ((decide (1 ≤ xs.length) && decide (xs.length ≤ 20)) && xs.all p)) L := by
  have c := len_chain (n := xs.length) hl
  by_cases hb : (decide (1 ≤ xs.length) && decide (xs.length ≤ 20)) = true
  · rw [hb] at c ⊢
    have hx : xs.length ≤ 20 := of_decide_eq_true (and2 hb).2
    have q1 : C1_is_row [some d, none] L = .ok (.lst (xs.map fun x => D.bl (p x))) L := by
      refine eLc_map (box := false) xs id (fun x => D.bl (p x)) (src := []) (L1 := L) ?_ srcOk_nil (by omega) fun a ha => ⟨_, rfl, ?_⟩
      · unfold iSeq
        rw [ev_var (d := d) rfl, Res.bind_ok, hs, List.map_id]
      · exact (ev_call (ev_cons (ev_var (d := a) rfl) (ev_cons (d := .int 0) rfl (ev_one (d := .non) rfl))) rfl).trans (h a ha)
    exact ev_m (ev_seq (ev_skip (ev_or_f (ev_not (b := true) (ev_tru hd)) (ev_not (b := true) (ev_asB c)))) (ev_ret ((ev_en (ev_one q1)).trans (gAll_map xs p))))
  · have hb' : (decide (1 ≤ xs.length) && decide (xs.length ≤ 20)) = false := by simpa using hb
    rw [hb'] at c ⊢
    exact ev_m (ev_seqR (ev_if_t (ev_or_f (ev_not (b := true) (ev_tru hd)) (ev_not (b := false) (ev_asB c))) (ev_ret rfl)))
theorem isint_bl (b : Bool) (L : Sto) : m_is_integer [.bl b, .int 0, .non] L = .ok (.bl false) L := ev_m (ev_seqR (ev_if_t (ev_or_f (ev_not (b := true) (ev_tru rfl)) (ev_or_t (ev_tru rfl))) (ev_ret rfl)))
theorem isint_not {d : D} (h : eIsi .int (eVar 0) (startE 3 [d, .int 0, .non]) = fun L => .ok (.bl false) L) (L : Sto) : m_is_integer [d, .int 0, .non] L = .ok (.bl false) L :=
  ev_m (ev_seqR (ev_if_t (ev_or_t (ev_not (b := false) (ev_tru (congrFun h L)))) (ev_ret rfl)))
end DS
set_option Elab.async false
set_option linter.all false
set_option maxRecDepth 100000
set_option maxHeartbeats 4000000
namespace DS
open PySem PySem.Spec L2
open PyProof.Rows hiding St

/-! ### dice from the script -/
theorem gPow_int {i j : Int} {L : Sto} (h : 0 ≤ j ∧ j ≤ 1000 ∧ i.natAbs < 2 ^ 1000) : gPow (.int i) (.int j) L = .ok (.int (i ^ j.toNat)) L := if_pos h
theorem gIx_ro {L : Sto} {j : Nat} {xs : List D} {y : D} (hy : xs[j]? = some y) : gIx (.ro xs) (.int (j : Int)) L = .ok y L := by
  unfold gIx
  simp only [seqOf_ro, atI_nat hy]
theorem pow60 (ρ : Env') (L : Sto) : DS.e2 gPow (eC (.int 10)) (eC (.int 60)) ρ L = .ok (.int (10 ^ 60)) L := (ev_e2 (d := .int 10) (e := .int 60) rfl rfl).trans (gPow_int ⟨by decide, by decide, by decide⟩)
theorem pow600 (ρ : Env') (L : Sto) : DS.e2 gPow (DS.e2 gPow (eC (.int 10)) (eC (.int 60))) (eC (.int 10)) ρ L = .ok (.int ((10 ^ 60) ^ 10)) L := (ev_e2 (pow60 ρ L) (e := .int 10) rfl).trans (gPow_int ⟨by decide, by decide, by decide⟩)
theorem pow18 (ρ : Env') (L : Sto) : DS.e2 gPow (eC (.int 10)) (eC (.int 18)) ρ L = .ok (.int (10 ^ 18)) L := (ev_e2 (d := .int 10) (e := .int 18) rfl rfl).trans (gPow_int ⟨by decide, by decide, by decide⟩)
theorem dice_ok (ns : List Int) (k : Nat) (L : Sto) : ∃ a b, m_l_dice [.ro (ns.map .int), .int (k : Int)] L = .ok (.loc L.length) (L ++ [dice a b 0]) := by
  have s0 : startE 6 [.ro (ns.map .int), .int (k : Int)] = [some (.ro (ns.map .int)), some (.int k), none, none, none, none] := rfl
  obtain ⟨cell, hc⟩ : ∃ cell : Int, sIf (fun ρ L => asB ((DS.e2 gLt (eVar 1) (en gLen (aCons (eVar 0) aNil))) ρ L)) (sSet 2 (DS.e2 gIx (eVar 0) (eVar 1))) sSkip [some (.ro (ns.map .int)), some (.int k), some (.int (71 * k + 43)), none, none, none] L
      = .nx [some (.ro (ns.map .int)), some (.int k), some (.int cell), none, none, none] L := by
    have v0 : eVar 0 [some (.ro (ns.map .int)), some (.int k), some (.int (71 * k + 43)), none, none, none] L = .ok (.ro (ns.map .int)) L := rfl
    have v1 : eVar 1 [some (.ro (ns.map .int)), some (.int k), some (.int (71 * k + 43)), none, none, none] L = .ok (.int k) L := rfl
    have c := (ev_e2 v1 ((ev_en (ev_one v0)).trans gLen_ro) (k := gLt)).trans gLt_int
    rw [List.length_map] at c
    by_cases h : k < ns.length
    · have h2 : (k : Int) < (ns.length : Int) := by omega
      rw [decide_eq_true h2] at c
      have hg : (ns.map D.int)[k]? = some (.int ns[k]) := by rw [List.getElem?_map, List.getElem?_eq_getElem h]; rfl
      exact ⟨ns[k], ev_if_t (ev_asB c) (ev_set ((ev_e2 v0 v1).trans (gIx_ro hg)))⟩
    · have h2 : ¬ (k : Int) < (ns.length : Int) := by omega
      rw [decide_eq_false h2] at c
      exact ⟨71 * k + 43, ev_skip (ev_asB c)⟩
  have q0 : sSet 2 (DS.e2 gAdd (DS.e2 gMul (eC (.int 71)) (eVar 1)) (eC (.int 43))) [some (.ro (ns.map .int)), some (.int k), none, none, none, none] L = .nx [some (.ro (ns.map .int)), some (.int k), some (.int (71 * k + 43)), none, none, none] L :=
    ev_set ((ev_e2 ((ev_e2 (d := .int 71) (e := .int (k : Int)) rfl rfl).trans (gMul_int (.inl ⟨by decide, by decide⟩))) (e := .int 43) rfl).trans gAdd_int)
  obtain ⟨B, hB⟩ : ∃ B : Int, ((10 : Int) ^ 60) ^ 10 = B := ⟨_, rfl⟩
  have hB0 : 0 < B := by rw [← hB]; exact Int.pow_pos (Int.pow_pos (by decide))
  obtain ⟨g, hg⟩ : ∃ g : Int, (if cell < 0 then -cell else cell) % B = g := ⟨_, rfl⟩
  have q3 : sSet 3 (DS.e2 gMod (en gInt (aCons (en gAbs (aCons (eVar 2) aNil)) aNil)) (DS.e2 gPow (DS.e2 gPow (eC (.int 10)) (eC (.int 60))) (eC (.int 10)))) [some (.ro (ns.map .int)), some (.int k), some (.int cell), none, none, none] L
      = .nx [some (.ro (ns.map .int)), some (.int k), some (.int cell), some (.int g), none, none] L := by
    have z : en gInt (aCons (en gAbs (aCons (eVar 2) aNil)) aNil) [some (.ro (ns.map .int)), some (.int k), some (.int cell), none, none, none] L = .ok (.int (if cell < 0 then -cell else cell)) L :=
      (ev_en (ev_one ((ev_en (ev_one (ev_var (d := .int cell) rfl))).trans gAbs_int))).trans gInt_int
    have z2 := (ev_e2 z (pow600 _ L) (k := gMod)).trans (gMod_int (by rw [hB]; exact hB0))
    rw [hB, hg] at z2
    exact ev_set z2
  have q4 : sSet 4 (DS.e2 gDiv (eVar 3) (DS.e2 gPow (eC (.int 10)) (eC (.int 18)))) [some (.ro (ns.map .int)), some (.int k), some (.int cell), some (.int g), none, none] L
      = .nx [some (.ro (ns.map .int)), some (.int k), some (.int cell), some (.int g), some (.int (g / 10 ^ 18)), none] L :=
    ev_set ((ev_e2 (ev_var (d := .int g) rfl) (pow18 _ L)).trans (gDiv_int (by decide) (by decide)))
  obtain ⟨m, hm⟩ : ∃ m : Int, g % 2147483179 * 57037 + 3217 * (k : Int) + 53 * (if decide (cell < 0) = true then 1 else 0) + 101 = m := ⟨_, rfl⟩
  have q5 : sSet 5 (DS.e2 gAdd (DS.e2 gAdd (DS.e2 gAdd (DS.e2 gMul (DS.e2 gMod (eVar 3) (eC (.int 2147483179))) (eC (.int 57037))) (DS.e2 gMul (eC (.int 3217)) (eVar 1))) (DS.e2 gMul (eC (.int 53)) (en gInt (aCons (DS.e2 gLt (eVar 2) (eC (.int 0))) aNil)))) (eC (.int 101)))
      [some (.ro (ns.map .int)), some (.int k), some (.int cell), some (.int g), some (.int (g / 10 ^ 18)), none] L = .nx [some (.ro (ns.map .int)), some (.int k), some (.int cell), some (.int g), some (.int (g / 10 ^ 18)), some (.int m)] L := by
    have y1 := (ev_e2 (fa := eVar 3) (ρ := [some (.ro (ns.map .int)), some (.int k), some (.int cell), some (.int g), some (.int (g / 10 ^ 18)), none]) (L := L) (ev_var (d := .int g) rfl) (fb := eC (.int 2147483179)) (e := .int 2147483179) (L2 := L) rfl (k := gMod)).trans (gMod_int (by decide))
    have y2 := (ev_e2 y1 (fb := eC (.int 57037)) (e := .int 57037) (L2 := L) rfl (k := gMul)).trans (gMul_int (.inr ⟨by decide, by decide⟩))
    have y3 := (ev_e2 (fa := eC (.int 3217)) (ρ := [some (.ro (ns.map .int)), some (.int k), some (.int cell), some (.int g), some (.int (g / 10 ^ 18)), none]) (L := L) (d := .int 3217) (L1 := L) rfl (fb := eVar 1) (ev_var (d := .int k) rfl) (k := gMul)).trans (gMul_int (.inl ⟨by decide, by decide⟩))
    have y4 := (ev_e2 (fa := eVar 2) (ρ := [some (.ro (ns.map .int)), some (.int k), some (.int cell), some (.int g), some (.int (g / 10 ^ 18)), none]) (L := L) (ev_var (d := .int cell) rfl) (fb := eC (.int 0)) (e := .int 0) (L2 := L) rfl (k := gLt)).trans gLt_int
    have y5 := (ev_en (ev_one y4) (k := gInt)).trans gInt_bl
    have y6 := (ev_e2 (fa := eC (.int 53)) (d := .int 53) (L1 := L) rfl y5 (k := gMul)).trans (gMul_int (.inl ⟨by decide, by decide⟩))
    have y7 := (ev_e2 y2 y3 (k := gAdd)).trans gAdd_int
    have y8 := (ev_e2 y7 y6 (k := gAdd)).trans gAdd_int
    have y9 := (ev_e2 y8 (fb := eC (.int 101)) (e := .int 101) (L2 := L) rfl (k := gAdd)).trans gAdd_int
    rw [hm] at y9
    exact ev_set y9
  refine ⟨g / 10 ^ 18, m % 2147483123, ?_⟩
  refine ev_m (ev_seq q0 (ev_seq hc (ev_seq q3 (ev_seq q4 (ev_seq q5 (ev_ret ?_))))))
  have z := (ev_e2 (fa := eVar 5) (ρ := [some (.ro (ns.map .int)), some (.int k), some (.int cell), some (.int g), some (.int (g / 10 ^ 18)), some (.int m)]) (L := L) (ev_var (d := .int m) rfl) (fb := eC (.int 2147483123)) (e := .int 2147483123) (L2 := L) rfl (k := gMod)).trans (gMod_int (by decide))
  have zz := ev_cons (fa := eVar 4) (d := .int (g / 10 ^ 18)) (L1 := L) (ev_var rfl) (ev_cons z (ev_one (fa := eC (.int 0)) (d := .int 0) (L1 := L) rfl))
  unfold eLst
  rw [zz, Res.bind_ok]
  rw [if_pos (show [D.int (g / 10 ^ 18), .int (m % 2147483123), .int 0].length ≤ 16777216 from (show 3 ≤ 16777216 by decide))]
  rfl
end DS
set_option Elab.async false
set_option linter.all false
set_option maxRecDepth 100000
set_option maxHeartbeats 4000000
namespace DS
open PySem PySem.Spec L2
open PyProof.Rows hiding St

/-! ### the odd things -/
def odds (r : List Int) : List D := [.non, .int 0, .tg [], .lst [.int 0], .str "01", .dK [], .tg [.bl true], .tg [.int (-1)], .tg [.non], .tg [.str "0"], .tup (List.replicate 21 (.int 0)), .lst (r.map .int), .tg [.tg [.int 0]]]
theorem tg_is {xs : List D} (p : D → Bool) (L : Sto) (h : ∀ x ∈ xs, m_is_integer [x, .int 0, .non] L = .ok (.bl (p x)) L) : m_is_row [.tg xs] L = .ok (.bl ((decide (1 ≤ xs.length) && decide (xs.length ≤ 20)) && xs.all p)) L := is_row_gen p L rfl rfl rfl h
theorem odd_not (r : List Int) (L : Sto) : ∀ d ∈ odds r, m_is_row [d] L = .ok (.bl false) L := by
  intro d hd
  unfold odds at hd
  simp only [List.mem_cons, List.not_mem_nil, or_false] at hd
  rcases hd with rfl | rfl | rfl | rfl | rfl | rfl | rfl | rfl | rfl | rfl | rfl | rfl | rfl
  · exact is_row_not rfl L
  · exact is_row_not rfl L
  · exact (tg_is (xs := []) (fun _ => false) L (fun _ h => absurd h List.not_mem_nil)).trans rfl
  · exact is_row_not rfl L
  · exact is_row_not rfl L
  · exact is_row_not rfl L
  · refine (tg_is (fun _ => false) L fun x hx => ?_).trans rfl
    rw [List.mem_singleton.mp hx]; exact isint_bl _ L
  · refine (tg_is (fun _ => false) L fun x hx => ?_).trans rfl
    rw [List.mem_singleton.mp hx, is_int_non]; rfl
  · refine (tg_is (fun _ => false) L fun x hx => ?_).trans rfl
    rw [List.mem_singleton.mp hx]; exact isint_not rfl L
  · refine (tg_is (fun _ => false) L fun x hx => ?_).trans rfl
    rw [List.mem_singleton.mp hx]; exact isint_not rfl L
  · refine (is_row_gen (xs := List.replicate 21 (.int 0)) (fun _ => true) L rfl rfl rfl fun x hx => ?_).trans rfl
    rw [List.eq_of_mem_replicate hx, is_int_non]; rfl
  · exact is_row_not rfl L
  · refine (tg_is (fun _ => false) L fun x hx => ?_).trans rfl
    rw [List.mem_singleton.mp hx]; exact isint_not rfl L
theorem zeros_row (L : Sto) : m_is_row [.tup (List.replicate 20 (.int 0))] L = .ok (.bl true) L := by
  refine (is_row_gen (xs := List.replicate 20 (.int 0)) (fun _ => true) L rfl rfl rfl fun x hx => ?_).trans rfl
  rw [List.eq_of_mem_replicate hx, is_int_non]; rfl
end DS
set_option Elab.async false
set_option linter.all false
set_option maxRecDepth 100000
set_option maxHeartbeats 4000000
namespace DS
open PySem PySem.Spec L2
open PyProof.Rows hiding St

/-! ### the law's look at drawn rows -/
theorem ev_eif_t {t : TF} {fa fb : EF} {ρ : Env'} {L L1 : Sto} {q : Res D} (h : t ρ L = .ok true L1) (k : fa ρ L1 = q) : eIf t fa fb ρ L = q := by unfold eIf; rw [h]; exact k
theorem ev_eif_f {t : TF} {fa fb : EF} {ρ : Env'} {L L1 : Sto} {q : Res D} (h : t ρ L = .ok false L1) (k : fb ρ L1 = q) : eIf t fa fb ρ L = q := by unfold eIf; rw [h]; exact k
theorem c1_l_right {r : List Int} {a b : Int} (hl : r.length ≤ 20) (x0 x1 x3 x4 x5 x8 x9 x10 x11 : Option D) (L : Sto) : C1_l_right [x0, x1, some (rowD r), x3, x4, x5, some (.int a), some (.int b), x8, x9, x10, x11] L = .ok (.lst ((r.map (exch a b)).map .int)) L := by
  refine (eLc_map (box := false) r D.int (fun x => .int (exch a b x)) (src := []) (L1 := L) rfl srcOk_nil (by omega) fun x _ => ⟨_, rfl, ?_⟩).trans (by rw [List.map_map]; rfl)
  have q1 : asB (DS.e2 gEq (eVar 10) (eVar 6) ((wipeE [x0, x1, some (rowD r), x3, x4, x5, some (.int a), some (.int b), x8, x9, x10, x11] [10]).set 10 (some (.int x))) L) = .ok (decide (x = a)) L :=
    ev_asB (fa := DS.e2 gEq (eVar 10) (eVar 6)) ((ev_e2 (ev_var (d := .int x) rfl) (ev_var (d := .int a) rfl)).trans gEq_int)
  have q2 : asB (DS.e2 gEq (eVar 10) (eVar 7) ((wipeE [x0, x1, some (rowD r), x3, x4, x5, some (.int a), some (.int b), x8, x9, x10, x11] [10]).set 10 (some (.int x))) L) = .ok (decide (x = b)) L :=
    ev_asB (fa := DS.e2 gEq (eVar 10) (eVar 7)) ((ev_e2 (ev_var (d := .int x) rfl) (ev_var (d := .int b) rfl)).trans gEq_int)
  unfold exch
  by_cases h1 : x = a
  · rw [decide_eq_true h1] at q1
    rw [if_pos h1]
    exact ev_eif_t q1 rfl
  · rw [decide_eq_false h1] at q1
    rw [if_neg h1]
    refine ev_eif_f q1 ?_
    by_cases h2 : x = b
    · rw [decide_eq_true h2] at q2
      rw [if_pos h2]
      exact ev_eif_t q2 rfl
    · rw [decide_eq_false h2] at q2
      rw [if_neg h2]
      exact ev_eif_f q2 rfl
theorem c2_l_right {r fs : List Int} {h : Int} (hr : HRow r h) (hp : fs.Perm (rgI h)) (x0 x1 x3 x5 x6 x7 x8 x9 x10 x11 : Option D) (L : Sto) : C2_l_right [x0, x1, some (rowD r), x3, some (.lst (fs.map .int)), x5, x6, x7, x8, x9, x10, x11] L = .ok (.lst ((r.map (turn fs)).map .int)) L := by
  have l2 := hr.l2
  refine (eLc_map (box := false) r D.int (fun x => .int (turn fs x)) (src := []) (L1 := L) rfl srcOk_nil (by omega) fun x hx => ⟨_, rfl, ?_⟩).trans (by rw [List.map_map]; rfl)
  obtain ⟨j, rfl⟩ := Int.eq_ofNat_of_zero_le (hr.nn x hx)
  obtain ⟨hl, e⟩ := turn_get hp (hr.nn _ hx) (hr.lt _ hx)
  refine (ev_e2 (ev_var (d := .lst (fs.map .int)) rfl) (ev_var (d := .int j) rfl)).trans (gIx_lst (j := j) ?_)
  rw [List.getElem?_map, e]
  simp at hl
  rw [List.getElem?_eq_getElem hl]
  rfl
end DS
set_option Elab.async false
set_option linter.all false
set_option maxRecDepth 100000
set_option maxHeartbeats 4000000
namespace DS
open PySem PySem.Spec L2
open PyProof.Rows hiding St

theorem rolls2 {n : Nat} {L1 : Sto} {h : Int} {r : List Int} {it : IF} {f : EF} {i : Nat} {ρ : Env'} {L : Sto} (hd : Dc n L1) (hk : r.length ≤ 1000) (hi : it ρ L = .ok ⟨r.map .int, []⟩ L1)
    (hf : ∀ a L, Dc n L → ∃ x L', f ((wipeE ρ [i]).set i (some (.int a))) L = .ok (.int x) L' ∧ Nxt n L L' ∧ 0 ≤ x ∧ x < h) :
    ∃ (w : List Int) (L' : Sto), eLc false [i] it (gSet i) tTrue f ρ L = .ok (.lst (w.map .int)) L' ∧ Nxt n L1 L' ∧ w.length = r.length ∧ ∀ x ∈ w, 0 ≤ x ∧ x < h := by
  obtain ⟨ys, L', q, q1, q2, q3⟩ := eLc_inv (box := false) (own := [i]) (tg := gSet i) (f := f) r D.int (fun L => Nxt n L1 L ∧ Dc n L) (fun _ y => ∃ x, y = D.int x ∧ 0 ≤ x ∧ x < h) hi (fun _ _ => srcOk_nil) (by omega) ⟨.refl hd, hd⟩
    fun a _ L hL => by
      obtain ⟨x, L', f1, f2, f3, f4⟩ := hf a L hL.2
      exact ⟨_, .int x, L', rfl, f1, ⟨hL.1.trans f2, f2.dc hL.2⟩, x, rfl, f3, f4⟩
  obtain ⟨w, rfl, hr⟩ := ints_of (ys := ys) (Q := fun x => 0 ≤ x ∧ x < h) fun y hy => by
    obtain ⟨j, hj⟩ := List.getElem?_of_mem hy
    have hlt : j < r.length := by rw [← q2]; exact getElem?_lt hj
    exact q3 j _ y (List.getElem?_eq_getElem hlt) hj
  refine ⟨w, L', q, q1.1, ?_, hr⟩
  rw [List.length_map] at q2
  exact q2
theorem gSort_tg (r : List Int) (L : Sto) : gSort false [rowD r] L = .ok (.lst ((srtI r).map .int)) L := by
  unfold gSort
  simp only [seqOf_tg, dInts_map, lstOut_f]
theorem gNe_lst (r s : List Int) (L : Sto) : gNe (.lst (r.map .int)) (.lst (s.map .int)) L = .ok (.bl (!decide (r = s))) L := by
  rw [gNe_ev (by rw [seen_lst]; exact okLst r) (by rw [seen_lst]; exact okLst s), seen_lst, seen_lst, eqD, eqDL_ints]
theorem gNe_bl (a b : Bool) (L : Sto) : gNe (.bl a) (.bl b) L = .ok (.bl (!(a == b))) L := by
  rw [gNe_ev (ok_bl _ _) (ok_bl _ _)]; rfl
end DS
set_option Elab.async false
set_option linter.all false
set_option maxRecDepth 100000
set_option maxHeartbeats 4000000
namespace DS
open PySem PySem.Spec L2
open PyProof.Rows hiding St

theorem eTup2 {fa fb : EF} {ρ : Env'} {L L1 L2 : Sto} {d e : D} (h1 : fa ρ L = .ok d L1) (h2 : fb ρ L1 = .ok e L2) : eTup (aCons fa (aCons fb aNil)) ρ L = .ok (.tup [d, e]) L2 := by
  unfold eTup newT
  rw [ev_cons h1 (ev_one h2), Res.bind_ok, if_pos (show [d, e].length ≤ 16777216 from (show 2 ≤ 16777216 by decide))]
theorem ev_asg {fa : EF} {g : GF} {ρ ρ1 : Env'} {L L1 : Sto} {d : D} (h : fa ρ L = .ok d L1) (hg : g d ρ = some ρ1) : sAsg fa g ρ L = .nx ρ1 L1 := by
  unfold sAsg
  rw [h, sBind_ok, hg]
theorem ev_par {i j : Nat} {fl : AF} {ρ : Env'} {L L1 : Sto} {d e : D} (h : fl ρ L = .ok [d, e] L1) : sPar i j fl ρ L = .nx ((ρ.set i (some d)).set j (some e)) L1 := by
  unfold sPar
  rw [h]
theorem gIs_t (b : Bool) (L : Sto) : gNotB (.bl b) (.bl true) L = .ok (.bl (!b)) L := by
  show Res.ok (D.bl (!decide (b = true))) L = _
  cases b <;> rfl
end DS
set_option Elab.async false
set_option linter.all false
set_option maxRecDepth 100000
set_option maxHeartbeats 4000000
namespace DS
open PySem PySem.Spec L2
open PyProof.Rows hiding St

theorem c4_l_right (r : List Int) (x0 x1 x2 x3 x4 x6 x7 x8 x9 x10 x11 : Option D) (L : Sto) : C4_l_right [x0, x1, x2, x3, x4, some (.lst (odds r)), x6, x7, x8, x9, x10, x11] L = .ok (.lst []) L := by
  refine (eLc_filter (box := false) (own := [11]) (tg := gSet 11) (t := tTru (eCall 1 m_is_row [] (aCons (eVar 11) aNil))) (f := eVar 11) (it := iSeq (eVar 5)) (odds r) (fun d => d) (fun _ => false) (fun d => d) (ρ := [x0, x1, x2, x3, x4, some (.lst (odds r)), x6, x7, x8, x9, x10, x11]) (L := L) (src := []) (L1 := L) rfl srcOk_nil (show 13 ≤ 16777216 by decide) fun x hx => ⟨_, rfl, ?_, fun h => nomatch h⟩).trans ?_
  · exact ev_tru ((ev_call (ev_one (ev_var (d := x) rfl)) rfl).trans (odd_not r L x hx))
  · rw [List.filter_eq_nil_iff.mpr fun _ _ => Bool.false_ne_true]; rfl
theorem odds_ev {r : List Int} (hl : r.length ≤ 20) (x0 x1 x3 x4 x5 x6 x7 x8 x9 x10 x11 : Option D) (L : Sto) : eLst false (aCons (eC .non) (aCons (eC (.int 0)) (aCons (eTupG aNil) (aCons (eLst false (aCons (eC (.int 0)) aNil)) (aCons (eC (.str "01")) (aCons (eDict0 false) (aCons (eTupG (aCons (eC (.bl true)) aNil)) (aCons (eTupG (aCons (e1 gNeg (eC (.int 1))) aNil)) (aCons (eTupG (aCons (eC .non) aNil)) (aCons (eTupG (aCons (eC (.str "0")) aNil)) (aCons (DS.e2 gMul (eTupG (aCons (eC (.int 0)) aNil)) (eC (.int 21))) (aCons (en (gList false) (aCons (eVar 2) aNil)) (aCons (eTupG (aCons (eTupG (aCons (eC (.int 0)) aNil)) aNil)) aNil))))))))))))) [x0, x1, some (rowD r), x3, x4, x5, x6, x7, x8, x9, x10, x11] L = .ok (.lst (odds r)) L := by
  have t0 : ∀ ρ : Env', eTupG aNil ρ L = .ok (.tg []) L := fun ρ => ev_tupG ev_nil (Nat.zero_le _)
  have t1 : ∀ (d : D) (ρ : Env'), eTupG (aCons (eC d) aNil) ρ L = .ok (.tg [d]) L := fun d ρ => ev_tupG (ev_one rfl) (show 1 ≤ 16777216 by decide)
  have t2 : ∀ (ρ : Env'), eTupG (aCons (e1 gNeg (eC (.int 1))) aNil) ρ L = .ok (.tg [.int (-1)]) L := fun ρ => ev_tupG (ev_one rfl) (show 1 ≤ 16777216 by decide)
  have t3 : ∀ (ρ : Env'), eTupG (aCons (eTupG (aCons (eC (.int 0)) aNil)) aNil) ρ L = .ok (.tg [.tg [.int 0]]) L := fun ρ => ev_tupG (ev_one (t1 _ ρ)) (show 1 ≤ 16777216 by decide)
  have t4 : ∀ (ρ : Env'), eLst false (aCons (eC (.int 0)) aNil) ρ L = .ok (.lst [.int 0]) L := fun ρ => ev_lst (ev_one rfl) (show 1 ≤ 16777216 by decide)
  have m1 : gMul (.tg [.int 0]) (.int 21) L = .ok (.tup (List.replicate 21 (.int 0))) L := by
    have e : gMul (.tg [.int 0]) (.int 21) L = if -(2 ^ 63) ≤ (21 : Int) ∧ (21 : Int) < 2 ^ 63 ∧ [D.int 0].length * (21 : Int).toNat ≤ 16777216 then .ok (.tup (List.replicate (21 : Int).toNat [D.int 0]).flatten) L else .bad := rfl
    rw [e, if_pos ⟨by omega, by omega, by rw [List.length_singleton, Nat.one_mul]; decide⟩, show (21 : Int).toNat = 21 from rfl, flat_rep]
  have t5 : ∀ (ρ : Env'), DS.e2 gMul (eTupG (aCons (eC (.int 0)) aNil)) (eC (.int 21)) ρ L = .ok (.tup (List.replicate 21 (.int 0))) L := fun ρ => (ev_e2 (t1 _ ρ) (e := .int 21) rfl).trans m1
  have t6 : en (gList false) (aCons (eVar 2) aNil) [x0, x1, some (rowD r), x3, x4, x5, x6, x7, x8, x9, x10, x11] L = .ok (.lst (r.map .int)) L := (ev_en (ev_one (ev_var (d := rowD r) rfl))).trans rfl
  exact ev_lst (ev_cons rfl (ev_cons rfl (ev_cons (t0 _) (ev_cons (t4 _) (ev_cons rfl (ev_cons rfl (ev_cons (t1 _ _) (ev_cons (t2 _) (ev_cons (t1 _ _) (ev_cons (t1 _ _) (ev_cons (t5 _) (ev_cons t6 (ev_one (t3 _)))))))))))))) (show 13 ≤ 16777216 by decide)
theorem zeros_ev (ρ : Env') (L : Sto) : DS.e2 gMul (eTupG (aCons (eC (.int 0)) aNil)) (eC (.int 20)) ρ L = .ok (.tup (List.replicate 20 (.int 0))) L := by
  have e : gMul (.tg [.int 0]) (.int 20) L = if -(2 ^ 63) ≤ (20 : Int) ∧ (20 : Int) < 2 ^ 63 ∧ [D.int 0].length * (20 : Int).toNat ≤ 16777216 then .ok (.tup (List.replicate (20 : Int).toNat [D.int 0]).flatten) L else .bad := rfl
  refine (ev_e2 (ev_tupG (ev_one rfl) (show 1 ≤ 16777216 by decide)) (e := .int 20) rfl).trans ?_
  rw [e, if_pos ⟨by omega, by omega, by rw [List.length_singleton, Nat.one_mul]; decide⟩, show (20 : Int).toNat = 20 from rfl, flat_rep]
theorem right_ok {n : Nat} {L : Sto} (hd : Dc n L) : ∃ L', m_l_right [.loc n] L = .ok (.bl true) L' ∧ Nxt n L L' ∧ Dc n L' := by
  obtain ⟨g, L1, g0, g1, gq, gn, gd⟩ := roll hd (t := 8) (by decide) (by decide)
  obtain ⟨h, hh⟩ : ∃ h : Int, 1 + g = h := ⟨_, rfl⟩
  have h1 : 1 ≤ h := by omega
  have h2 : h ≤ 20 := by omega
  obtain ⟨r, L2, hr, r12, rq, rn, rd⟩ := drawn_row gd h1 h2
  obtain ⟨a, L3, a0, a1, aq, an, ad⟩ := roll rd h1 (by omega)
  obtain ⟨b, L4, b0, b1, bq, bn, bd⟩ := roll ad h1 (by omega)
  have l1 := hr.l1
  have l2 := hr.l2
  have hs : HRow (r.map (exch a b)) h := hr.map fun x x0 x1 => exch_in a0 a1 b0 b1 x0 x1
  have hse : (r.map (exch a b)).map (exch b a) = r := by
    rw [List.map_map]
    have : (exch b a ∘ exch a b) = id := funext fun x => exch_exch a b x
    rw [this, List.map_id]
  obtain ⟨fs, L5, fp, fq, fn, fd⟩ := mixed_ok bd (is := rgI h) (by rw [rgI_len]; omega)
  have ht : HRow (r.map (turn fs)) h := hr.map fun x x0 x1 => turn_in fp x0 x1
  obtain ⟨w, L6, wq, wn, wl, wx⟩ := rolls2 (n := n) (r := r) (h := h) (it := iSeq (eVar 2)) (f := eCall 2 m_l_roll [] (aCons (eVar 0) (aCons (eVar 1) aNil))) (i := 10)
    (ρ := [some (.loc n), some (.int h), some (rowD r), some (rowD (r.map (exch a b))), some (.lst (fs.map .int)), none, some (.int a), some (.int b), none, none, none, none]) (L := L5) fd (by omega) rfl fun x M hM => by
      obtain ⟨y, M', y0, y1, yq, yn, yd⟩ := roll hM h1 (by omega)
      exact ⟨y, M', (ev_call (ev_cons (ev_var (d := .loc n) rfl) (ev_one (ev_var (d := .int h) rfl))) rfl).trans yq, yn, y0, y1⟩
  have hw : HRow w h := ⟨⟨by omega, by omega, fun x hx => (wx x hx).1⟩, h1, h2, fun x hx => (wx x hx).2⟩
  have hsl : ((r.map (exch a b)).map D.int).length ≤ 16777216 := by rw [List.length_map, List.length_map]; omega
  have htl : ((r.map (turn fs)).map D.int).length ≤ 16777216 := by rw [List.length_map, List.length_map]; omega
  have hwl : (w.map D.int).length ≤ 16777216 := by rw [List.length_map]; omega
  have rg : eRange1 (eVar 1) (lstOut false) [some (.loc n), some (.int h), some (rowD r), some (rowD (r.map (exch a b))), none, none, some (.int a), some (.int b), none, none, none, none] L4 = .ok (.lst ((rgI h).map .int)) L4 := by
    obtain ⟨j, rfl⟩ := Int.eq_ofNat_of_zero_le (show 0 ≤ h by omega)
    refine (ev_rg1 (j := j) (ev_var (d := .int j) rfl) (rgOk0 (by omega))).trans ?_
    rw [lstOut_f]
    unfold rgI
    rw [List.map_map]
    rfl
  refine ⟨L6, ?_, ((((gn.trans rn).trans an).trans bn).trans fn).trans wn, wn.dc fd⟩
  refine ev_m (ev_seq (ev_set (d := .int h) (L1 := L1) ?c1) (ev_seq (ev_set (d := rowD r) (L1 := L2) ?c2) (ev_seq (ev_asg (d := .tup [.int a, .int b]) (L1 := L4) ?c3 rfl) (ev_seq (ev_skip (L1 := L4) ?c4) (ev_seq (ev_set (d := rowD (r.map (exch a b))) (L1 := L4) ?c5) (ev_seq (ev_skip (L1 := L4) ?c6)
    (ev_seq (ev_set (d := .lst (fs.map .int)) (L1 := L5) ?c7) (ev_seq (ev_par (d := rowD (r.map (turn fs))) (e := rowD w) (L1 := L6) ?c8) (ev_seq (ev_skip (L1 := L6) ?c9) (ev_seq (ev_skip (L1 := L6) ?c10) (ev_seq (ev_skip (L1 := L6) ?c11) (ev_seq (ev_set (odds_ev l2 _ _ _ _ _ _ _ _ _ _ _ L6)) (ev_ret ?c13)))))))))))))
  case c1 => exact (ev_e2 (d := .int 1) rfl ((ev_call (ev_cons (ev_var (d := .loc n) rfl) (ev_one (d := .int 8) rfl)) rfl).trans gq)).trans (by rw [gAdd_int, hh])
  case c2 => exact (ev_call (ev_cons (ev_var (d := .loc n) rfl) (ev_one (ev_var (d := .int h) rfl))) rfl).trans rq
  case c3 => exact eTup2 ((ev_call (ev_cons (ev_var (d := .loc n) rfl) (ev_one (ev_var (d := .int h) rfl))) rfl).trans aq) ((ev_call (ev_cons (ev_var (d := .loc n) rfl) (ev_one (ev_var (d := .int h) rfl))) rfl).trans bq)
  case c4 => exact ev_not (b := true) (ev_tru ((ev_call (ev_cons (ev_var (d := rowD r) rfl) (ev_one (ev_var (d := .int h) rfl))) rfl).trans (counts_right_ok hr L4)))
  case c5 => exact (ev_en (ev_one (c1_l_right (a := a) (b := b) l2 _ _ _ _ _ _ _ _ _ L4))).trans (gTuple_lst hsl)
  case c6 =>
    refine ev_or_f (ev_asB (fa := DS.e2 gNe _ _) ((ev_e2 ((ev_call (ev_cons (ev_var (d := rowD r) rfl) (ev_cons (ev_var (d := .int h) rfl) (ev_cons (ev_var (d := .int a) rfl) (ev_one (ev_var (d := .int b) rfl))))) rfl).trans (exchanged_ok hr a0 a1 b0 b1 L4)) (ev_var (d := rowD (r.map (exch a b))) rfl)).trans ?_))
      (ev_asB (fa := DS.e2 gNe _ _) ((ev_e2 ((ev_call (ev_cons (ev_var (d := rowD (r.map (exch a b))) rfl) (ev_cons (ev_var (d := .int h) rfl) (ev_cons (ev_var (d := .int b) rfl) (ev_one (ev_var (d := .int a) rfl))))) rfl).trans (exchanged_ok hs b0 b1 a0 a1 L4)) (ev_var (d := rowD r) rfl)).trans ?_))
    · rw [gNe_row, decide_eq_true rfl]; rfl
    · rw [hse, gNe_row, decide_eq_true rfl]; rfl
  case c7 => exact (ev_call (ev_cons (ev_var (d := .loc n) rfl) (ev_one rg)) rfl).trans fq
  case c8 => exact ev_cons ((ev_en (ev_one (c2_l_right hr fp _ _ _ _ _ _ _ _ _ _ L5))).trans (gTuple_lst htl)) (ev_one ((ev_en (ev_one wq)).trans (gTuple_lst hwl)))
  case c9 =>
    refine ev_or_f (ev_asB (fa := DS.e2 gNe _ _) ((ev_e2 ((ev_call (ev_one (ev_var (d := rowD r) rfl)) rfl).trans (renamed_ok hr.toIsRow L6)) ((ev_call (ev_one (ev_var (d := rowD r) rfl)) rfl).trans (named_ok hr.toIsRow L6))).trans ?_))
      (ev_or_f (ev_asB (fa := DS.e2 gNe _ _) ((ev_e2 ((ev_call (ev_one (ev_var (d := rowD (r.map (turn fs))) rfl)) rfl).trans (renamed_ok ht.toIsRow L6)) ((ev_call (ev_one (ev_var (d := rowD r) rfl)) rfl).trans (renamed_ok hr.toIsRow L6))).trans ?_))
      (ev_asB (fa := DS.e2 gNotB _ _) ((ev_e2 ((ev_call (ev_cons (ev_var (d := rowD r) rfl) (ev_one (ev_var (d := rowD (r.map (turn fs))) rfl))) rfl).trans (are_alike_ok hr.toIsRow ht.toIsRow (by rw [List.length_map]) L6)) (e := .bl true) rfl).trans ?_)))
    · rw [gNe_row, decide_eq_true rfl]; rfl
    · rw [nmd_turn hr fp, gNe_row, decide_eq_true rfl]; rfl
    · rw [nmd_turn hr fp, decide_eq_true rfl, gIs_t]; rfl
  case c10 =>
    refine ev_asB (fa := DS.e2 gNe _ _) ((ev_e2 ((ev_call (ev_cons (ev_var (d := rowD r) rfl) (ev_one (ev_var (d := rowD w) rfl))) rfl).trans (are_alike_ok hr.toIsRow hw.toIsRow wl.symm L6))
      ((ev_e2 ((ev_call (ev_one (ev_var (d := rowD r) rfl)) rfl).trans (named_ok hr.toIsRow L6)) ((ev_call (ev_one (ev_var (d := rowD w) rfl)) rfl).trans (named_ok hw.toIsRow L6))).trans (gEq_row _ _ L6))).trans ?_)
    rw [gNe_bl, beq_self_eq_true]; rfl
  case c11 =>
    refine ev_asB (fa := DS.e2 gNe _ _) ((ev_e2 ((ev_en (ev_one ((ev_call (ev_cons (ev_var (d := rowD (r.map (turn fs))) rfl) (ev_one (ev_var (d := .int h) rfl))) rfl).trans (sizes_ok ht L6)))).trans (gSort_tg _ L6))
      ((ev_en (ev_one ((ev_call (ev_cons (ev_var (d := rowD r) rfl) (ev_one (ev_var (d := .int h) rfl))) rfl).trans (sizes_ok hr L6)))).trans (gSort_tg _ L6))).trans ?_)
    rw [gNe_lst, srt_turn hr fp, decide_eq_true rfl]; rfl
  case c13 =>
    refine ev_and_t ((ev_call (ev_one (ev_var (d := rowD r) rfl)) rfl).trans (is_row_ok hr.toIsRow L6)) (ev_and_t ((ev_call (ev_one (zeros_ev _ L6)) rfl).trans (zeros_row L6)) ?_)
    refine (ev_e2 (c4_l_right r _ _ _ _ _ _ _ _ _ _ _ L6) (ev_lst ev_nil (Nat.zero_le _))).trans ?_
    rw [gEq_ev (by rw [seen_lst]; exact ok_nil) (by rw [seen_lst]; exact ok_nil), seen_lst, eqD, eqDL]
end DS
set_option Elab.async false
set_option linter.all false
set_option maxRecDepth 100000
set_option maxHeartbeats 4000000
namespace DS
open PySem PySem.Spec L2
open PyProof.Rows hiding St

theorem inner_loop {n : Nat} {L : Sto} (hd : Dc n L) (s x1 x2 x3 x5 : Option D) : ∃ y5 L', L1_law [s, x1, x2, x3, some (.loc n), x5] L = .nx [s, x1, x2, x3, some (.loc n), y5] L' := by
  have := sFor_inv (fi := iRange1 (aCons (eC (.int 4)) aNil)) (tg := gSet 5) (body := sIf (tNotF (tTru (eCall 1 m_l_right [] (aCons (eVar 4) aNil)))) (sRet (eC (.bl false))) sSkip)
    (ρ := [s, x1, x2, x3, some (.loc n), x5]) (L := L) (range1_ev (n := 4) (L1 := L) rfl (by omega) (by omega))
    (fun i ρ L' => (∃ y5, ρ = [s, x1, x2, x3, some (.loc n), y5]) ∧ Dc n L') ⟨⟨x5, rfl⟩, hd⟩ ?_
  · obtain ⟨ρ', L', q, ⟨y5, rfl⟩, _⟩ := this
    exact ⟨y5, L', q⟩
  · rintro i d ρ L' hi ⟨⟨y5, rfl⟩, hd⟩
    obtain ⟨L2, q, _, hd2⟩ := right_ok hd
    exact ⟨_, [s, x1, x2, x3, some (.loc n), some d], L2, rfl, ev_skip (ev_not (b := true) (ev_tru ((ev_call (ev_one (ev_var (d := .loc n) rfl)) rfl).trans q))), srcOk_nil, ⟨_, rfl⟩, hd2⟩
theorem outer_loop (ns : List Int) (L : Sto) : ∃ y1 y4 y5 L', L2_law (startE 6 [.ro (ns.map .int)]) L = .nx [some (.ro (ns.map .int)), y1, none, none, y4, y5] L' := by
  have s0 : startE 6 [.ro (ns.map .int)] = [some (.ro (ns.map .int)), none, none, none, none, none] := rfl
  rw [s0]
  have hr : aCons (en gMax (aCons (eC (.int 1)) (aCons (en gMin (aCons (eC (.int 10)) (aCons (en gLen (aCons (eVar 0) aNil)) aNil))) aNil))) aNil [some (.ro (ns.map .int)), none, none, none, none, none] L = .ok [.int (max 1 (min 10 (ns.length : Int)))] L := by
    refine ev_one ((ev_en (ev_cons (d := .int 1) rfl (ev_one ((ev_en (ev_cons (d := .int 10) rfl (ev_one ((ev_en (ev_one (ev_var (d := .ro (ns.map .int)) rfl))).trans gLen_ro)))).trans gMin_ii)))).trans ?_)
    rw [gMax_ii, List.length_map]
  have := sFor_inv (fi := iRange1 (aCons (en gMax (aCons (eC (.int 1)) (aCons (en gMin (aCons (eC (.int 10)) (aCons (en gLen (aCons (eVar 0) aNil)) aNil))) aNil))) aNil)) (tg := gSet 1) (body := sSeq (sSet 4 (eCall 2 m_l_dice [] (aCons (eVar 0) (aCons (eVar 1) aNil)))) L1_law)
    (ρ := [some (.ro (ns.map .int)), none, none, none, none, none]) (L := L) (range1_ev (L1 := L) hr (by omega) (by omega))
    (fun i ρ L' => ∃ y1 y4 y5, ρ = [some (.ro (ns.map .int)), y1, none, none, y4, y5]) ⟨_, _, _, rfl⟩ ?_
  · obtain ⟨ρ', L', q, y1, y4, y5, rfl⟩ := this
    exact ⟨y1, y4, y5, L', q⟩
  · rintro i d ρ L' hi ⟨y1, y4, y5, rfl⟩
    dsimp only at hi
    rw [List.getElem?_map] at hi
    obtain ⟨v, hv, rfl⟩ := Option.map_eq_some_iff.mp hi
    obtain ⟨a, b, q⟩ := dice_ok ns v L'
    obtain ⟨z5, L2, q2⟩ := inner_loop (n := L'.length) (L := L' ++ [dice a b 0]) ⟨a, b, 0, by simp⟩ (some (.ro (ns.map .int))) (some (natD v)) none none y5
    exact ⟨_, [some (.ro (ns.map .int)), some (natD v), none, none, some (.loc L'.length), z5], L2, rfl, ev_seq (ev_set ((ev_call (ev_cons (ev_var (d := .ro (ns.map .int)) rfl) (ev_one (ev_var (d := .int (v : Int)) rfl))) rfl).trans q)) q2, srcOk_nil, _, _, _, rfl⟩
theorem hrow_by {r : List Int} {h : Int} (e : (decide (1 ≤ r.length) && decide (r.length ≤ 20) && r.all (fun x => decide (0 ≤ x)) && decide (1 ≤ h) && decide (h ≤ 20) && r.all (fun x => decide (x < h))) = true) : HRow r h := by
  simp only [Bool.and_eq_true, decide_eq_true_eq, List.all_eq_true] at e
  obtain ⟨⟨⟨⟨⟨a, b⟩, c⟩, d⟩, f⟩, g⟩ := e
  exact ⟨⟨a, b, c⟩, d, f, g⟩
theorem isrow_by {r : List Int} (e : (decide (1 ≤ r.length) && decide (r.length ≤ 20) && r.all (fun x => decide (0 ≤ x))) = true) : IsRow r := by
  simp only [Bool.and_eq_true, decide_eq_true_eq, List.all_eq_true] at e
  exact ⟨e.1.1, e.1.2, e.2⟩
section
variable (ρ : Env') (L : Sto)
theorem tup_i1 (a : Int) : eTupG (aCons (eC (.int a)) aNil) ρ L = .ok (rowD [a]) L := ev_tupG (ev_one rfl) (show 1 ≤ 16777216 by decide)
theorem tup_i2 (a b : Int) : eTupG (aCons (eC (.int a)) (aCons (eC (.int b)) aNil)) ρ L = .ok (rowD [a, b]) L := ev_tupG (ev_cons rfl (ev_one rfl)) (show 2 ≤ 16777216 by decide)
theorem tup_i3 (a b c : Int) : eTupG (aCons (eC (.int a)) (aCons (eC (.int b)) (aCons (eC (.int c)) aNil))) ρ L = .ok (rowD [a, b, c]) L := ev_tupG (ev_cons rfl (ev_cons rfl (ev_one rfl))) (show 3 ≤ 16777216 by decide)
theorem tup_i4 (a b c d : Int) : eTupG (aCons (eC (.int a)) (aCons (eC (.int b)) (aCons (eC (.int c)) (aCons (eC (.int d)) aNil)))) ρ L = .ok (rowD [a, b, c, d]) L := ev_tupG (ev_cons rfl (ev_cons rfl (ev_cons rfl (ev_one rfl)))) (show 4 ≤ 16777216 by decide)
theorem t_sizes : eCall 2 m_sizes [] (aCons (eTupG (aCons (eC (.int 0)) (aCons (eC (.int 1)) (aCons (eC (.int 0)) (aCons (eC (.int 2)) aNil))))) (aCons (eC (.int 4)) aNil)) ρ L = .ok (rowD [2, 1, 1, 0]) L := (ev_call (ev_cons (tup_i4 ρ L _ _ _ _) (ev_one (d := .int 4) rfl)) rfl).trans (sizes_ok (hrow_by (by decide)) L)
theorem t_lev3 : eCall 2 m_is_level [] (aCons (eTupG (aCons (eC (.int 0)) (aCons (eC (.int 1)) (aCons (eC (.int 0)) (aCons (eC (.int 2)) aNil))))) (aCons (eC (.int 3)) aNil)) ρ L = .ok (.bl true) L := (ev_call (ev_cons (tup_i4 ρ L _ _ _ _) (ev_one (d := .int 3) rfl)) rfl).trans (is_level_ok (hrow_by (by decide)) L)
theorem t_lev4 : eCall 2 m_is_level [] (aCons (eTupG (aCons (eC (.int 0)) (aCons (eC (.int 1)) (aCons (eC (.int 0)) (aCons (eC (.int 2)) aNil))))) (aCons (eC (.int 4)) aNil)) ρ L = .ok (.bl false) L := (ev_call (ev_cons (tup_i4 ρ L _ _ _ _) (ev_one (d := .int 4) rfl)) rfl).trans (is_level_ok (hrow_by (by decide)) L)
theorem t_ls1 : eCall 2 m_level_sizes [] (aCons (eC (.int 7)) (aCons (eC (.int 3)) aNil)) ρ L = .ok (rowD [3, 2, 2]) L := (ev_call (ev_cons (d := .int 7) rfl (ev_one (d := .int 3) rfl)) rfl).trans (level_sizes_ok (by decide) (by decide) (by decide) (by decide) L)
theorem t_ls2 : eCall 2 m_level_sizes [] (aCons (eC (.int 2)) (aCons (eC (.int 4)) aNil)) ρ L = .ok (rowD [1, 1, 0, 0]) L := (ev_call (ev_cons (d := .int 2) rfl (ev_one (d := .int 4) rfl)) rfl).trans (level_sizes_ok (by decide) (by decide) (by decide) (by decide) L)
theorem t_row : eCall 1 m_row_of [] (aCons (eTupG (aCons (eTupG (aCons (eC (.int 2)) aNil)) (aCons (eTupG (aCons (eC (.int 0)) (aCons (eC (.int 1)) aNil))) aNil))) aNil) ρ L = .ok (rowD [1, 1, 0]) L :=
  (ev_call (ev_one (ev_tupG (ev_cons (tup_i1 ρ L _) (ev_one (tup_i2 ρ L _ _))) (show 2 ≤ 16777216 by decide))) rfl).trans (row_of_ok (r := [1, 1, 0]) (h := 2) (hrow_by (by decide)) L)
theorem t_ren : eCall 1 m_renamed [] (aCons (eTupG (aCons (eC (.int 30)) (aCons (eC (.int 1)) (aCons (eC (.int 30)) (aCons (eC (.int 0)) aNil))))) aNil) ρ L = .ok (rowD [0, 1, 0, 2]) L := (ev_call (ev_one (tup_i4 ρ L _ _ _ _)) rfl).trans (renamed_ok (isrow_by (by decide)) L)
theorem t_alike : eCall 2 m_are_alike [] (aCons (eTupG (aCons (eC (.int 0)) (aCons (eC (.int 1)) (aCons (eC (.int 1)) aNil)))) (aCons (eTupG (aCons (eC (.int 2)) (aCons (eC (.int 0)) (aCons (eC (.int 0)) aNil)))) aNil)) ρ L = .ok (.bl true) L := (ev_call (ev_cons (tup_i3 ρ L _ _ _) (ev_one (tup_i3 ρ L _ _ _))) rfl).trans (are_alike_ok (r := [0, 1, 1]) (s := [2, 0, 0]) (isrow_by (by decide)) (isrow_by (by decide)) rfl L)
theorem t_lev20 : eCall 2 m_is_level [] (aCons (eTupG (aCons (eC (.int 0)) aNil)) (aCons (eC (.int 20)) aNil)) ρ L = .ok (.bl true) L := (ev_call (ev_cons (tup_i1 ρ L _) (ev_one (d := .int 20) rfl)) rfl).trans (is_level_ok (hrow_by (by decide)) L)
end
def dues : List D := [rowD [2, 1, 1, 0], .bl true, .bl false, rowD [3, 2, 2], rowD [1, 1, 0, 0], rowD [1, 1, 0], rowD [0, 1, 0, 2], .bl true, .bl true]
theorem dues_eq (L : Sto) : gEq (.lst dues) (.lst dues) L = .ok (.bl true) L := by
  have k : okD 60 (.lst dues) = true := by unfold dues; rw [okD]; simp only [okDL, okRow' 58, ok_bl, Bool.and_self]
  rw [gEq_ev (by rw [seen_lst]; exact k) (by rw [seen_lst]; exact k), seen_lst, eqD]
  unfold dues
  simp only [eqDL, eqD_row, eqD_refl_bl, decide_true, Bool.and_self]
theorem law_ok (ns : List Int) (hn : ns.length ≤ 63) : ∃ L, m_law [.ro (ns.map .int)] [] = .ok (.bl true) L := by
  obtain ⟨y1, y4, y5, L, q⟩ := outer_loop ns []
  have a1 : gAdd (.lst [rowD [2, 1, 1, 0], .bl true, .bl false]) (.lst [rowD [3, 2, 2], rowD [1, 1, 0, 0]]) L = .ok (.lst [rowD [2, 1, 1, 0], .bl true, .bl false, rowD [3, 2, 2], rowD [1, 1, 0, 0]]) L := gAdd_lst (show 5 ≤ 16777216 by decide)
  have a2 : gAdd (.lst [rowD [2, 1, 1, 0], .bl true, .bl false, rowD [3, 2, 2], rowD [1, 1, 0, 0]]) (.lst [rowD [1, 1, 0], rowD [0, 1, 0, 2], .bl true, .bl true]) L = .ok (.lst dues) L := gAdd_lst (show 9 ≤ 16777216 by decide)
  refine ⟨L, ev_m (ev_seq q (ev_seq (ev_set (ev_lst (ev_cons (t_sizes _ L) (ev_cons (t_lev3 _ L) (ev_one (t_lev4 _ L)))) (show 3 ≤ 16777216 by decide)))
    (ev_seq (ev_set ((ev_e2 (ev_var (d := .lst [rowD [2, 1, 1, 0], .bl true, .bl false]) rfl) (ev_lst (ev_cons (t_ls1 _ L) (ev_one (t_ls2 _ L))) (show 2 ≤ 16777216 by decide))).trans a1))
    (ev_seq (ev_set ((ev_e2 (ev_var (d := .lst [rowD [2, 1, 1, 0], .bl true, .bl false, rowD [3, 2, 2], rowD [1, 1, 0, 0]]) rfl) (ev_lst (ev_cons (t_row _ L) (ev_cons (t_ren _ L) (ev_cons (t_alike _ L) (ev_one (t_lev20 _ L))))) (show 4 ≤ 16777216 by decide))).trans a2))
    (ev_seq (ev_set (d := .lst dues) (L1 := L) (ev_lst (ev_cons (tup_i4 _ L _ _ _ _) (ev_cons rfl (ev_cons rfl (ev_cons (tup_i3 _ L _ _ _) (ev_cons (tup_i4 _ L _ _ _ _) (ev_cons (tup_i3 _ L _ _ _) (ev_cons (tup_i4 _ L _ _ _ _) (ev_cons rfl (ev_one rfl))))))))) (show 9 ≤ 16777216 by decide)))
    (ev_ret ((ev_e2 (ev_var (d := .lst dues) rfl) (ev_var (d := .lst dues) rfl)).trans (dues_eq L))))))))⟩
end DS
theorem PySem.Challenge.cw_levelhues_k01_rows_sizes_and_classes_holds : PySem.Challenge.rw_levelhues_k01_rows_sizes_and_classes.Holds :=
  DS.walked fun ns hn => DS.law_ok ns hn
